/- Appends, on states. -/
import Derived.Test.YthcndkpkkaphoaaVa
import Derived.Laws.Entries
import Derived.Laws.Strings
import Derived.Tactics
namespace Go.Vc
set_option linter.all false
open T (hdr blk)

namespace T
section
variable {α : Type}
def app : T α → T α → T α
  | .cons h t, u => .cons h (t.app u)
  | _, u => u
theorem erase_app (s u : T α) : (s.app u).erase = s.erase.app u.erase := by
  induction s with
  | cons h t _ iht => simp [app, erase, iht]
  | _ => simp [app, erase]
theorem len_app (s u : T α) : (s.app u).len = s.len + u.len := by
  induction s with
  | cons h t _ iht => simp [app, len, iht]; omega
  | _ => simp [app, len]
theorem uni_app {z : Nat} {s u : T α} (hs : s.uni z) (hu : u.uni z) : (s.app u).uni z := by
  induction s with
  | cons h t _ iht => exact ⟨hs.1, iht hs.2⟩
  | nil => exact hu
  | _ => exact hs.elim
theorem app_nil {z : Nat} {s : T α} (hs : s.uni z) : s.app .nil = s := by
  induction s with
  | cons h t _ iht => simp [app, iht hs.2]
  | nil => rfl
  | _ => exact hs.elim
theorem uni_zero {z : Nat} {s : T α} (hs : s.uni z) (h : s.len = 0) : s = .nil := by
  cases s with
  | nil => rfl
  | cons a t => simp [len] at h
  | _ => exact hs.elim
end
theorem cells_app {z : Nat} {s : G} (hs : s.uni z) (u : G) : (s.app u).cells = s.cells ++ u.cells := by
  induction s with
  | cons h t _ iht => simp [app, cells, iht hs.2]
  | nil => simp [app, cells]
  | _ => exact hs.elim
theorem owned_app {z : Nat} {s : G} (hs : s.uni z) (u : G) : (s.app u).owned = s.owned ++ u.owned := by
  induction s with
  | cons h t _ iht => simp [app, owned, iht hs.2]
  | nil => simp [app, owned]
  | _ => exact hs.elim
theorem Holds.app {h : Array Obj} {I : Nat → Prop} {s u : G} (H : Holds h I s) (U : Holds h I u) : Holds h I (s.app u) := by
  induction s with
  | cons a t _ iht => exact ⟨H.1, iht H.2⟩
  | _ => exact U
end T

section
variable {c : Cx} {X : List D} {κ κ1 : List (Nat × Path)} {w w' : World} {I : Nat → Prop} {F F1 : List G}

/-- What a root of the call's own becomes, memory having turned in its own blocks alone. -/
theorem Stp.setRoot (hi : Inv c X κ w I F) (hk : KeepR c.F0.length F F1 κ1) (hF1 : ∀ g ∈ F1, T.Holds w.heap I g) {ext : List Nat} (hx : ∀ b, ext.count b + (own F1).count b ≤ (own F).count b)
    {j : Nat} {g g2 : G} (hj : F1[j]? = some g) (hjb : c.F0.length ≤ j) (hg2 : T.Holds w'.heap I g2) (hc : ∀ b, b < w.heap.size → g2.owned.count b ≤ g.owned.count b + ext.count b)
    (hc1 : ∀ b, w.heap.size ≤ b → g2.owned.count b ≤ 1) (hlt : ∀ b ∈ g2.owned, b < w'.heap.size) (hh : ∀ b, b < w.heap.size → b ∉ g.owned → w'.heap[b]? = w.heap[b]?)
    (hsz : w.heap.size ≤ w'.heap.size) (hos : w'.os = w.os) (ht : w'.tape = w.tape) (hp : w'.output = w.output) :
    Stp w w' I I F (F1.set j g2) (κ1 ++ [(j, [])]) c.F0.length := by
  have hone := fun b => count_le_one hi.nodup b
  have hsame : ∀ b, b < w.heap.size → b ∉ own F → w'.heap[b]? = w.heap[b]? := fun b hb hn => hh b hb fun hm => hn (by
    have h1 := hx b
    have h2 := own_mem hj hm
    rw [mem_of_count] at *; omega)
  have hcnt : ∀ b, b < w.heap.size → (own (F1.set j g2)).count b ≤ (own F).count b := fun b hb => by
    have h1 := own_set hj g2 b
    have h2 := hx b
    have h3 := hc b hb
    omega
  have hold : ∀ b, w.heap.size ≤ b → (own F).count b = 0 := fun b hb => List.count_eq_zero.2 fun hm => by have := hi.lt b hm; omega
  have hmem : ∀ b ∈ own (F1.set j g2), b < w.heap.size → b ∈ own F := fun b hm hb => by
    have := hcnt b hb
    rw [mem_of_count] at *; omega
  have hnew : ∀ b ∈ own (F1.set j g2), w.heap.size ≤ b → b ∈ g2.owned := fun b hm hb => by
    have h1 := own_set hj g2 b
    have h2 := hx b
    have h3 := hold b hb
    rw [mem_of_count] at *; omega
  constructor
  case holds =>
    intro g' hg'
    obtain ⟨i, hgi⟩ := List.getElem?_of_mem hg'
    by_cases e : j = i
    · subst e
      rw [List.getElem?_set_self (List.getElem?_eq_some_iff.1 hj).1] at hgi
      cases hgi; exact hg2
    · rw [List.getElem?_set_ne e] at hgi
      refine (hF1 g' (List.mem_of_getElem? hgi)).agree (fun b hb => ?_) (fun b hb => hsame b (hi.ilt b hb) (hi.unheld b hb)) fun _ h => h
      have h1 := count_other hgi hj (Ne.symm e) b
      have h2 := hx b
      have h3 := hone b
      have hbF : b ∈ own F := by rw [mem_of_count] at *; omega
      refine hh b (hi.lt b hbF) fun hm => ?_
      rw [mem_of_count] at hb hm
      omega
  case nodup =>
    refine nodup_of_count fun b => ?_
    rcases Nat.lt_or_ge b w.heap.size with hb | hb
    · exact Nat.le_trans (hcnt b hb) (hone b)
    · have h1 := own_set hj g2 b
      have h2 := hx b
      have h3 := hold b hb
      have h4 := hc1 b hb
      omega
  case apart =>
    intro b hb hI
    exact hi.apart b (hmem b hb (hi.ilt b hI)) hI
  case mine =>
    intro b hb
    rcases Nat.lt_or_ge b w.heap.size with h | h
    · exact .inl (hmem b hb h)
    · exact .inr h
  case lt =>
    intro b hb
    rcases Nat.lt_or_ge b w.heap.size with h | h
    · omega
    · exact hlt b (hnew b hb h)
  case ilt => exact fun b hb => Nat.lt_of_lt_of_le (hi.ilt b hb) hsz
  case heap => exact hsame
  case size => exact hsz
  case os => exact hos
  case tape => exact ht
  case output => exact hp
  case imono => exact fun _ h => h
  case inew => exact fun _ h => .inl h
  case keep =>
    intro i f hf
    obtain ⟨f1, h1, h2⟩ := hk.2 i f hf
    by_cases e : j = i
    · subst e
      have hd : ∀ q, dead (κ1 ++ [(j, [])]) j q true = true := fun q => by simp [dead, mpre]
      have hd' : ∀ q, q ≠ [] → dead (κ1 ++ [(j, [])]) j q false = true := fun q hq => by
        have := List.length_pos_iff.2 hq
        simp [dead, mpre, this]
      refine ⟨g2, List.getElem?_set_self (List.getElem?_eq_some_iff.1 hj).1, fun h => by omega, fun q hq => ?_, fun q hq => ?_, fun q v _ hq => ?_⟩
      · cases q with
        | nil => simp [T.loc]
        | cons st q => rw [hd' _ (by simp)] at hq; cases hq
      · rw [hd] at hq; cases hq
      · rw [hd] at hq; cases hq
    · refine ⟨f1, by rw [List.getElem?_set_ne e]; exact h1, ?_⟩
      rcases h2 with rfl | ⟨⟨a, rfl⟩, h3, h4⟩
      · exact ⟨fun _ => rfl, fun _ _ => rfl, fun _ _ => rfl, fun _ _ h _ => h⟩
      · refine ⟨fun h => by omega, fun q' hq => ?_, fun q' hq => ?_, fun q' v _ hq => ?_⟩
        · rw [dead_append, Bool.or_eq_false_iff] at hq
          cases q' with
          | nil => simp [T.loc]
          | cons st q' => rw [dead_roots' hk.1 (by simp), h3] at hq; cases hq.1
        · rw [dead_append, Bool.or_eq_false_iff, dead_roots hk.1, h3] at hq; cases hq.1
        · rw [dead_append, Bool.or_eq_false_iff, dead_roots hk.1, h3] at hq; cases hq.1

end

/-- The cells of a slice's elements, as an append reads them. -/
theorem slice_cells {h : Array Obj} {w : World} (hw : w.heap = h) {I : Nat → Prop} {own : Bool} {z : Nat} {A : Option Addr} {n cap : Nat} {s : G} (H : T.Holds h I (.sl own (.slice A n cap) z s)) :
    n = s.len ∧ n ≤ cap ∧ cap ≤ 2 ^ 63 - 1 ∧ (A = none → cap = 0) ∧ (∀ a, A = some a → a.spot = none) ∧ s.cells.length = n * z ∧
      (∀ a, A = some a → ∀ j v, s.cells[j]? = some v → w.cell? (a.add j) = some v) ∧
      (∀ a, A = some a → 0 < cap → ∃ row e', h[a.block]? = some (.cells row e' (0, 0)) ∧ a.off + cap * z ≤ row.size ∧ ∀ j v, s.cells[j]? = some v → row[a.off + j]? = some v) := by
  subst hw
  obtain ⟨H1, H2, H3, H4⟩ := H
  cases A with
  | none =>
    obtain ⟨rfl, rfl, h3⟩ := H4
    have h0 := T.uni_zero H2 h3
    subst h0
    exact ⟨rfl, Nat.le_refl _, by omega, fun _ => rfl, (fun a h => by cases h), by simp [T.cells], (fun a h => by cases h), (fun a h => by cases h)⟩
  | some x =>
    rcases cap with _ | cap
    · obtain ⟨rfl, g1, h3⟩ := H4
      have h0 := T.uni_zero H2 h3
      subst h0
      exact ⟨rfl, Nat.le_refl _, by omega, fun _ => rfl, (fun a h => by cases h; exact g1), by simp [T.cells], (fun a h j v hv => by simp [T.cells] at hv), fun a h h0 => by omega⟩
    obtain ⟨g1, g2, g3, g4, g5, row, e, g6, g7, g8⟩ := H4
    refine ⟨g2, g3, g4, (fun h => by cases h), (fun a h => by cases h; exact g1), by rw [T.cells_length, T.uni_width H2, ← g2], ?_, ?_⟩
    · intro a ha j v hv
      cases ha
      obtain ⟨xb, xo, xs⟩ := x
      simp only at g1 g6 g8
      subst g1
      have hadd : (⟨xb, xo, none⟩ : Addr).add j = ⟨xb, xo + j, none⟩ := by unfold Addr.add; split <;> simp_all
      rw [hadd, cell_of_row w xb (xo + j) row e (0, 0) g6]
      exact g8 j v hv
    · intro a ha _
      cases ha
      exact ⟨row, e, g6, g7, g8⟩

/-- The node that an append leaves, in whatever case. -/
theorem append_node {P : Program} (w : World) {I : Nat → Prop} {t ty e : TypeId} {i : TypeInfo} {zv : Value} (ht : P.underlying t = some (.slice e)) (hi : P.info? e = some i) (hz : i.zero = some zv)
    {own1 own2 : Bool} {A A2 : Option Addr} {n cap m c2 : Nat} {s x : G} (H1 : T.Holds w.heap I (.sl own1 (.slice A n cap) i.size s)) (H2 : T.Holds w.heap I (.sl own2 (.slice A2 m c2) i.size x))
    (hzs : zv.cells.size = i.size) (hIlt : ∀ b, I b → b < w.heap.size)
    (hI : n + m ≤ cap → 0 < m → ∀ a, A = some a → ¬ I a.block ∧ a.block ∉ s.owned ∧ a.block ∉ x.owned) (hlt : ∀ b ∈ s.owned ++ x.owned, b < w.heap.size)
    (hb : (n + m) * i.bytes ≤ 140737488355328) (h63 : n + m ≤ 2 ^ 63 - 1) :
    ∃ v' w', (Builtin.append_ #[t, t] ty #[.slice A n cap, .slice A2 m c2]).run P w = .ok v' w' ∧ w'.os = w.os ∧ w'.tape = w.tape ∧ w'.output = w.output ∧ w.heap.size ≤ w'.heap.size ∧
      (∀ b, b < w.heap.size → (∀ a, A = some a → n + m ≤ cap → 0 < m → b ≠ a.block) → w'.heap[b]? = w.heap[b]?) ∧
      (∃ A' c', v' = .slice A' (n + m) c') ∧ (cap < n + m → ∃ c', v' = .slice (some ⟨w.heap.size, 0, none⟩) (n + m) c' ∧ w.heap.size < w'.heap.size) ∧
      (n + m ≤ cap → v' = .slice A (n + m) cap ∧ w'.heap.size = w.heap.size) ∧
      ((n + m ≤ cap → own1 = true) → T.Holds w'.heap I (.sl true v' i.size (s.app x))) := by
  obtain ⟨a1, a2, a3, a4, a5, a6, a7, a8⟩ := slice_cells rfl H1
  obtain ⟨b1, b2, b3, b4, b5, b6, b7, b8⟩ := slice_cells rfl H2
  obtain ⟨v', w', r1, r2, r3, r4, r5⟩ := run_append w (ty := ty) ht hi hz A n cap A2 m c2 a2 a4 (fun h => by have := b4 h; omega) a5 s.cells x.cells a6 a7 b6 b7 H2.1.one
    (fun a ha _ _ => by obtain ⟨row, e', h1, h2, _⟩ := a8 a ha (by omega); exact ⟨row, e', h1, h2⟩) hb h63
  have hl : (s.app x).len = n + m := by rw [T.len_app, ← a1, ← b1]
  have hcs : (s.app x).cells = s.cells ++ x.cells := T.cells_app H1.2.1 x
  rcases r5 with ⟨c1, c2', c3, c4⟩ | ⟨c1, c', c2', c3, c4, c5⟩
  · -- in place
    subst c2'
    rcases c4 with ⟨hm, hw⟩ | ⟨a, row, e', hA, hr, ho, row', h1, h2, h3, h4⟩
    · have hwh : w' = w := hw
      subst hw
      have hx0 : x = .nil := T.uni_zero H2.2.1 (by omega)
      subst hx0
      refine ⟨_, w', r1, r2, r3, r4, Nat.le_refl _, fun _ _ _ => rfl, ⟨_, _, rfl⟩, fun h => by omega, fun _ => ⟨rfl, rfl⟩, fun hown => ?_⟩
      subst hm
      rw [T.app_nil H1.2.1]
      rw [hown (by omega)] at H1
      exact H1
    · subst hA
      have hmul : (n + m) * i.size ≤ cap * i.size := Nat.mul_le_mul_right _ c1
      rw [Nat.add_mul] at hmul
      refine ⟨_, w', r1, r2, r3, r4, by omega, fun b hb hne => ?_, ⟨_, _, rfl⟩, fun h => by omega, fun _ => ⟨rfl, c3⟩, fun hown => ?_⟩
      · by_cases hm : 0 < m
        · exact ho b (hne a rfl c1 hm)
        · by_cases e : b = a.block
          · subst e
            have hx0 : x.cells.length = 0 := by rw [b6]; have : m = 0 := by omega
                                                subst this; simp
            rw [h1, hr]
            have : row' = row := by
              apply Array.ext_getElem?
              intro j
              exact h4 j (by omega)
            rw [this]
          · exact ho b e
      · rcases Nat.eq_zero_or_pos cap with h0 | h0
        · subst h0
          have hs : s.app x = .nil := T.uni_zero (T.uni_app H1.2.1 H2.2.1) (by omega)
          rw [hs]
          exact ⟨trivial, trivial, (by intro h; cases h), by omega, a5 a rfl, rfl⟩
        obtain ⟨cap, rfl⟩ : ∃ k, cap = k + 1 := ⟨cap - 1, by omega⟩
        obtain ⟨row0, e0, q1, q2, q3⟩ := a8 a rfl h0
        rw [hr] at q1
        cases q1
        have hfr : ∀ {g : G}, T.Holds w.heap I g → (0 < m → a.block ∉ g.owned) → T.Holds w'.heap I g := fun {g} hg hn => by
          by_cases hm : 0 < m
          · refine hg.agree (fun b hb => ho b fun e => hn hm (e ▸ hb)) (fun b hb => ho b fun e => (hI c1 hm a rfl).1 (e ▸ hb)) fun _ h => h
          · have hsame : ∀ b, w'.heap[b]? = w.heap[b]? := fun b => by
              by_cases e : b = a.block
              · subst e
                have hx0 : x.cells.length = 0 := by rw [b6]; have : m = 0 := by omega
                                                    subst this; simp
                rw [h1, hr]
                have : row' = row := by
                  apply Array.ext_getElem?
                  intro j
                  exact h4 j (by omega)
                rw [this]
              · exact ho b e
            exact hg.agree (fun b _ => hsame b) (fun b _ => hsame b) fun _ h => h
        refine ⟨(hfr H1.1 fun hm => (hI c1 hm a rfl).2.1).app (hfr H2.1 fun hm => (hI c1 hm a rfl).2.2), T.uni_app H1.2.1 H2.2.1, (by intro h; cases h), a5 a rfl, hl.symm, c1, a3, (by intro h; cases h), row', _, h1, by rw [h2]; exact q2, fun j u hu => ?_⟩
        rw [hcs] at hu
        by_cases hj : j < s.cells.length
        · rw [List.getElem?_append_left hj] at hu
          rw [h4 _ (by omega)]
          exact q3 j u hu
        · rw [List.getElem?_append_right (by omega)] at hu
          have hj2 : j - s.cells.length < x.cells.length := by
            rcases Nat.lt_or_ge (j - s.cells.length) x.cells.length with h' | h'
            · exact h'
            · rw [List.getElem?_eq_none h'] at hu; cases hu
          rw [h3 _ (by omega) (by omega), ← hu]; congr 1; omega
  · subst c4
    subst c5
    have hheap : ∀ b, b < w.heap.size → ∀ o, (w.drew.alloc o).heap[b]? = w.heap[b]? := fun b hb o => heap_alloc (w := w.drew) hb
    refine ⟨_, _, r1, r2, r3, r4, by simp, fun b hb _ => hheap b hb _, ⟨_, _, rfl⟩, fun _ => ⟨_, rfl, by simp⟩, fun h => by omega, fun _ => ?_⟩
    have hfr : ∀ {g : G} {o : Obj}, T.Holds w.heap I g → (∀ b ∈ g.owned, b < w.heap.size) → T.Holds (w.drew.alloc o).heap I g := fun {g o} hg hn =>
      hg.agree (fun b hb => hheap b (hn b hb) o) (fun b hb => hheap b (hIlt b hb) o) fun _ h => h
    obtain ⟨c', rfl⟩ : ∃ k, c' = k + 1 := ⟨c' - 1, by omega⟩
    refine ⟨(hfr H1.1 fun b hb => hlt b (by simp [hb])).app (hfr H2.1 fun b hb => hlt b (by simp [hb])), T.uni_app H1.2.1 H2.2.1, (by intro h; cases h), rfl, hl.symm, c2', c3, (by intro h; cases h), _, e, heap_alloc_new w.drew _, ?_, fun j u hu => ?_⟩
    · have hzc : (Builtin.zeroCells zv.cells (c' + 1 - (n + m))).size = (c' + 1 - (n + m)) * i.size := by rw [size_zeroCells, hzs]
      have : (n + m) * i.size + (c' + 1 - (n + m)) * i.size = (c' + 1) * i.size := by rw [← Nat.add_mul]; congr 1; omega
      simp only [Array.size_append, List.size_toArray, a6, b6, hzc, Nat.zero_add]
      rw [← Nat.add_mul, this]; exact Nat.le_refl _
    · rw [hcs] at hu
      have hj : j < (s.cells ++ x.cells).length := by
        rcases Nat.lt_or_ge j (s.cells ++ x.cells).length with h' | h'
        · exact h'
        · rw [List.getElem?_eq_none h'] at hu; cases hu
      simp only [Nat.zero_add]
      rw [← Array.getElem?_toList]
      simp only [Array.toList_append, List.append_assoc]
      rw [← List.append_assoc, List.getElem?_append_left hj]; exact hu

end Go.Vc

/- Tables of a program's types, and the operations that touch no memory: their conditions, and that they hold what they promise. -/
namespace Go.Vc
set_option linter.all false
open T (hdr blk)

/-- What is known of a type, as far as it is wanted. -/
structure Ty where
  sl : Option (Nat × Nat × Nat × Value) := none
  ld : Option (Bool × Nat) := none
  zero : Option G := none
  st : Option (List (Nat × Nat)) := none
  ar : Option (Nat × Nat) := none
  int : Option IntKind := none
  ptr : Bool := false
  str : Bool := false
  bool : Bool := false

def zeroish : G → Bool
  | .val v => v.oneCell'
  | .nil => true
  | .cons h t => zeroish h && zeroish t
  | .agg s => zeroish s
  | .sl true (.slice none 0 0) _ .nil => true
  | _ => false

def aggTy (P : Program) (t : TypeId) : Bool :=
  match P.underlying t with
  | some (.struct _) => true
  | some (.array _ _) => true
  | _ => false

structure Ty.Ok (P : Program) (t : TypeId) (y : Ty) : Prop where
  sl : ∀ e z by_ zv, y.sl = some (e, z, by_, zv) → P.underlying t = some (.slice e) ∧ ∃ i, P.info? e = some i ∧ i.zero = some zv ∧ i.size = z ∧ i.bytes = by_ ∧ zv.cells.size = z
  ld : ∀ b n, y.ld = some (b, n) → aggTy P t = b ∧ (P.underlying t).isSome = true ∧ ∃ i, P.info? t = some i ∧ i.size = n
  zero : ∀ g, y.zero = some g → zeroish g = true ∧ ∃ i z, P.info? t = some i ∧ i.zero = some z ∧ z.cells.toList = g.cells
  st : ∀ l, y.st = some l → ∃ fs, P.underlying t = some (.struct fs) ∧ fs.toList.map (fun f => (f.offset, P.cellsOf f.type)) = l ∧ (∀ f ∈ fs.toList, (P.info? f.type).isSome = true) ∧ l.all (fun x => x.2 != 0) = true
  ar : ∀ n z, y.ar = some (n, z) → ∃ e, P.underlying t = some (.array n e) ∧ ∃ i, P.info? e = some i ∧ i.size = z
  int : ∀ k, y.int = some k → P.underlying t = some (.int k)
  ptr : y.ptr = true → ∃ e, P.underlying t = some (.pointer e)
  str : y.str = true → P.underlying t = some .string
  bool : y.bool = true → P.underlying t = some .bool

abbrev Tab := TypeId → Ty
def Tab.Ok (P : Program) (τ : Tab) : Prop := ∀ t, (τ t).Ok P t

theorem zeroish_holds {g : G} (h : zeroish g = true) (hp : Array Obj) (I : Nat → Prop) : T.Holds hp I g ∧ g.owned = [] := by
  induction g with
  | val v => exact ⟨h, rfl⟩
  | junk v => cases h
  | nil => exact ⟨trivial, rfl⟩
  | cons a t iha iht =>
    simp only [zeroish, Bool.and_eq_true] at h
    exact ⟨⟨(iha h.1).1, (iht h.2).1⟩, by simp [T.owned, (iha h.1).2, (iht h.2).2]⟩
  | agg s ih => exact ⟨(ih h).1, (ih h).2⟩
  | sl o a z s ih =>
    unfold zeroish at h
    split at h <;> simp_all [T.Holds, T.owned, T.uni, T.free, T.len, blk]
  | box o a g ih => cases h
  | map o a s ih => cases h

/-- A zero tree as an abstract value. -/
def AV.ofZ : G → AV
  | .val v => .val v
  | .nil => .nil
  | .cons h t => .cons (AV.ofZ h) (AV.ofZ t)
  | .agg s => .agg (AV.ofZ s)
  | .sl _ _ z _ => .nils z
  | _ => .bad

theorem ofZ_rl {g : G} (h : zeroish g = true) {hp : Array Obj} {I : Nat → Prop} {F : List G} : Rl hp I F (AV.ofZ g) false g.cells := by
  induction g with
  | val v => exact ⟨rfl, h⟩
  | junk v => cases h
  | nil => exact rfl
  | cons a t iha iht =>
    simp only [zeroish, Bool.and_eq_true] at h
    exact ⟨_, _, rfl, iha h.1, iht h.2⟩
  | agg s ih => exact ih h
  | sl o a z s ih =>
    unfold zeroish at h
    split at h <;> simp_all [AV.ofZ, T.cells, Rl]
  | box o a g ih => cases h
  | map o a s ih => cases h

def AV.width : AV → Nat
  | .nil => 0
  | .cons a t => a.width + t.width
  | .agg s => s.width
  | _ => 1

def AV.nth : AV → Nat → AV
  | .cons a _, 0 => a
  | .cons _ t, i + 1 => t.nth i
  | _, _ => .bad

def AV.len : AV → Nat
  | .cons _ t => t.len + 1
  | _ => 0

def AV.offs : AV → Nat → Nat
  | .cons a t, i + 1 => a.width + t.offs i
  | _, _ => 0

def AV.ofList : List AV → AV
  | [] => .nil
  | a :: l => .cons a (AV.ofList l)

section
variable {h : Array Obj} {I : Nat → Prop} {F : List G}

theorem Rl.width {av : AV} {cs : List Value} (H : Rl h I F av false cs) : cs.length = av.width := by
  induction av generalizing cs with
  | cons a t iha iht => obtain ⟨v1, v2, rfl, h1, h2⟩ := H; simp [AV.width, iha h1, iht h2]
  | agg s ih => exact ih H
  | tup s ih => exact H.elim
  | nil => cases H; rfl
  | bad => obtain ⟨v, rfl, _⟩ := H; rfl
  | val v => obtain ⟨rfl, _⟩ := H; rfl
  | nils z => cases H; rfl
  | ptr k q => obtain ⟨b, o, _, rfl⟩ := H; rfl
  | sub k q lo n ex => obtain ⟨_, _, _, _, _, _, rfl, _⟩ := H; rfl
  | mp k q => obtain ⟨_, _, _, _, _, rfl⟩ := H; rfl
  | imm z s ex => obtain ⟨v, rfl, _⟩ := H; rfl
  | iptr d => obtain ⟨v, rfl, _⟩ := H; rfl
  | fn f s ih => obtain ⟨l, rfl, _⟩ := H; rfl

theorem Rl.nth {s : AV} {cs : List Value} (H : Rl h I F s false cs) {i : Nat} (hi : i < s.len) : Rl h I F (s.nth i) false ((cs.drop (s.offs i)).take (s.nth i).width) := by
  induction s generalizing cs i with
  | cons a t iha iht =>
    obtain ⟨v1, v2, rfl, h1, h2⟩ := H
    cases i with
    | zero => simp only [AV.nth, AV.offs, List.drop_zero, ← h1.width, List.take_left]; exact h1
    | succ i =>
      simp only [AV.nth, AV.offs]
      rw [← h1.width, List.drop_length_add_append]
      exact iht h2 (by simpa [AV.len] using hi)
  | _ => simp [AV.len] at hi

theorem Rl.nthV {s : AV} {vs : List Value} (H : Rl h I F s true vs) (hs : ∃ a t, s = .cons a t) {i : Nat} (hi : i < s.len) : ∃ v, vs[i]? = some v ∧ Rl h I F (s.nth i) true [v] := by
  induction s generalizing vs i with
  | cons a t iha iht =>
    obtain ⟨v, vs', rfl, h1, h2⟩ := H
    cases i with
    | zero => exact ⟨v, rfl, h1⟩
    | succ i =>
      cases t with
      | cons b u => exact iht h2 ⟨b, u, rfl⟩ (by simpa [AV.len] using hi)
      | _ => simp [AV.len] at hi
  | _ => simp [AV.len] at hi

/-- A run of cells as a value: an aggregate, or the one cell. -/
theorem Rl.ofAgg {s : AV} {cs : List Value} (H : Rl h I F (.agg s) false cs) : Rl h I F (.agg s) true [.agg cs.toArray] := ⟨cs, rfl, H⟩

def AV.isOne : AV → Bool
  | .val _ | .nils _ | .ptr _ _ | .sub _ _ _ _ _ | .mp _ _ | .imm _ _ _ | .iptr _ | .fn _ _ => true
  | _ => false

theorem Rl.ofOne {av : AV} {cs : List Value} (ho : av.isOne = true) (H : Rl h I F av false cs) : ∃ v, cs = [v] ∧ Rl h I F av true [v] ∧ v.oneCell' = true := by
  cases av with
  | val v => obtain ⟨rfl, h1⟩ := H; exact ⟨v, rfl, ⟨rfl, h1⟩, h1⟩
  | nils z => cases H; exact ⟨_, rfl, rfl, rfl⟩
  | ptr k q => obtain ⟨b, o, h1, rfl⟩ := H; exact ⟨_, rfl, ⟨b, o, h1, rfl⟩, rfl⟩
  | sub k q lo n ex => obtain ⟨a1, a2, a3, a4, v, h1, rfl, h2⟩ := H; exact ⟨_, rfl, ⟨a1, a2, a3, a4, v, h1, rfl, h2⟩, Rl_sub_one h2⟩
  | mp k q => obtain ⟨a1, a2, a3, a4, h1, rfl⟩ := H; exact ⟨_, rfl, ⟨a1, a2, a3, a4, h1, rfl⟩, rfl⟩
  | imm z s ex =>
    obtain ⟨v, rfl, h1⟩ := H
    refine ⟨_, rfl, ⟨v, rfl, h1⟩, ?_⟩
    obtain ⟨s', _, h2, _⟩ := h1
    exact T.Holds.one h2 v (by simp [T.cells])
  | iptr d =>
    obtain ⟨v, rfl, h1⟩ := H
    refine ⟨_, rfl, ⟨v, rfl, h1⟩, ?_⟩
    obtain ⟨g, x, _, _, _, rfl, _⟩ := h1
    rfl
  | fn f s => obtain ⟨l, rfl, h1⟩ := H; exact ⟨_, rfl, ⟨l, rfl, h1⟩, rfl⟩
  | _ => cases ho

theorem Rl.isOne {av : AV} {v : Value} (ho : av.isOne = true) (H : Rl h I F av true [v]) : Rl h I F av false [v] ∧ v.oneCell' = true := by
  cases av with
  | val v' => obtain ⟨h0, h1⟩ := H; cases h0; exact ⟨⟨rfl, h1⟩, h1⟩
  | nils z => cases H; exact ⟨rfl, rfl⟩
  | ptr k q => obtain ⟨b, o, h1, h0⟩ := H; cases h0; exact ⟨⟨b, o, h1, rfl⟩, rfl⟩
  | sub k q lo n ex => obtain ⟨a1, a2, a3, a4, v', h1, h0, h2⟩ := H; cases h0; exact ⟨⟨a1, a2, a3, a4, _, h1, rfl, h2⟩, Rl_sub_one h2⟩
  | mp k q => obtain ⟨a1, a2, a3, a4, h1, h0⟩ := H; cases h0; exact ⟨⟨a1, a2, a3, a4, h1, rfl⟩, rfl⟩
  | imm z s ex =>
    obtain ⟨v', h0, h1⟩ := H
    cases h0
    refine ⟨⟨_, rfl, h1⟩, ?_⟩
    obtain ⟨s', _, h2, _⟩ := h1
    exact T.Holds.one h2 _ (by simp [T.cells])
  | iptr d =>
    obtain ⟨v', h0, h1⟩ := H
    cases h0
    refine ⟨⟨_, rfl, h1⟩, ?_⟩
    obtain ⟨g, x, _, _, _, rfl, _⟩ := h1
    rfl
  | fn f s => obtain ⟨l, h0, h1⟩ := H; cases h0; exact ⟨⟨l, rfl, h1⟩, rfl⟩
  | _ => cases ho

end

/-! ### Operands -/

def St.ev (st : St) : Operand → AV
  | .tmp t => look st.env t
  | .const v => bif v.oneCell' then .val v else .bad
  | .func f => .fn f .nil
  | .global _ => .bad

/-- An operand of a type that is known: a bare nil is a slice without elements. -/
def St.evT (τ : Tab) (st : St) (t : TypeId) : Operand → AV
  | .const (.slice none 0 0) => match (τ t).sl with
    | some (_, z, _, _) => .nils z
    | none => .val (.slice none 0 0)
  | x => st.ev x

theorem EnvOk.ev {st : St} {a : Act} {w : World} {I : Nat → Prop} {F : List G} (he : EnvOk st.env a w I F) (x : Operand) : Rl w.heap I F (st.ev x) true [a.eval x] := by
  cases x with
  | tmp t => exact he t
  | const v =>
    simp only [St.ev, Act.eval]
    cases hv : v.oneCell' with
    | true => exact ⟨rfl, hv⟩
    | false => exact ⟨v, rfl⟩
  | func f => exact ⟨[], rfl, rfl⟩
  | global g => exact ⟨_, rfl⟩

theorem EnvOk.evT {τ : Tab} {st : St} {a : Act} {w : World} {I : Nat → Prop} {F : List G} (he : EnvOk st.env a w I F) (t : TypeId) (x : Operand) : Rl w.heap I F (st.evT τ t x) true [a.eval x] := by
  unfold St.evT
  split
  · split
    · exact rfl
    · exact ⟨rfl, rfl⟩
  · exact he.ev x

end Go.Vc

/- The operations that touch no memory: what must hold ahead of each, and that it then yields what is said, in whatever world. -/
namespace Go.Vc
set_option linter.all false
open T (hdr blk)

def BoolK (K : AV → Prop) (b : Bool) : Prop := K (.val (.bool b))

def intVc (op : BinOp) (k k' : IntKind) (m n : Int) (K : AV → Prop) : Prop :=
  match op with
  | .add => k = k' ∧ K (.val (.int k (k.wrap (m + n))))
  | .sub => k = k' ∧ K (.val (.int k (k.wrap (m - n))))
  | .mul => k = k' ∧ K (.val (.int k (k.wrap (m * n))))
  | .quo => k = k' ∧ n ≠ 0 ∧ K (.val (.int k (k.wrap (m.tdiv n))))
  | .rem => k = k' ∧ n ≠ 0 ∧ K (.val (.int k (m.tmod n)))
  | .shr => 0 ≤ n ∧ n ≤ k.bits ∧ K (.val (.int k (m / 2 ^ n.toNat)))
  | .eql => k = k' ∧ BoolK K (decide (m = n))
  | .neq => k = k' ∧ BoolK K (decide (m ≠ n))
  | .lss => k = k' ∧ BoolK K (decide (m < n))
  | .leq => k = k' ∧ BoolK K (decide (m ≤ n))
  | .gtr => k = k' ∧ BoolK K (decide (n < m))
  | .geq => k = k' ∧ BoolK K (decide (n ≤ m))
  | _ => False

def sLess (s u : ByteArray) : Bool := Op.bytesLess s.toList u.toList

def strVc (op : BinOp) (s u : ByteArray) (K : AV → Prop) : Prop :=
  match op with
  | .eql => BoolK K (decide (s = u))
  | .neq => BoolK K (decide (s ≠ u))
  | .lss => BoolK K (sLess s u)
  | .leq => BoolK K (sLess s u || decide (s = u))
  | .gtr => BoolK K (!(sLess s u || decide (s = u)))
  | .geq => BoolK K (!(sLess s u))
  | .add => s.size + u.size ≤ 2 ^ 63 - 1 ∧ K (.val (.string (s ++ u)))
  | _ => False

def eqVc (op : BinOp) (b : Bool) (K : AV → Prop) : Prop :=
  match op with
  | .eql => BoolK K b
  | .neq => BoolK K (!b)
  | _ => False

def binVc (τ : Tab) (op : BinOp) (t : TypeId) (x y : AV) (K : AV → Prop) : Prop :=
  match x, y with
  | .val (.int k m), .val (.int k' n) => intVc op k k' m n K
  | .val (.string s), .val (.string u) => strVc op s u K
  | .val (.bool p), .val (.bool q) => (τ t).bool = true ∧ eqVc op (p == q) K
  | .val (.pointer none), .val (.pointer none) => (τ t).ptr = true ∧ eqVc op true K
  | .ptr _ _, .val (.pointer none) => (τ t).ptr = true ∧ eqVc op false K
  | .iptr _, .val (.pointer none) => (τ t).ptr = true ∧ eqVc op false K
  | .nils _, .val (.slice none 0 0) => (τ t).sl.isSome = true ∧ eqVc op true K
  | .imm _ s _, .val (.slice none 0 0) => (τ t).sl.isSome = true ∧ ∀ b, (s.len ≠ 0 → b = false) → eqVc op b K
  | .sub _ _ _ n _, .val (.slice none 0 0) => (τ t).sl.isSome = true ∧ ∀ b, (n ≠ 0 → b = false) → eqVc op b K
  | _, _ => False

theorem toList_beq (s u : ByteArray) : (s.toList == u.toList) = decide (s = u) := by
  rw [Bool.eq_iff_iff, beq_iff_eq, decide_eq_true_iff]
  refine ⟨fun h => ?_, fun h => by rw [h]⟩
  rw [Go.ByteArray.toList_eq, Go.ByteArray.toList_eq] at h
  cases s; cases u
  congr 1
  exact Array.toList_inj.1 h


namespace T
def esz {α : Type} : T α → Nat
  | .sl _ _ z _ => z
  | _ => 0
end T

def fieldVc (τ : Tab) (t : TypeId) (d : D) (i : Nat) : Prop :=
  match d with
  | .agg s => i < s.len ∧ ((τ t).st.bind fun l => (l[i]?).map (·.1)) = some (s.offs i)
  | _ => False

def lenVc (τ : Tab) (st : St) (c : Call) (K : AV → Prop) : Prop :=
  match c.callee, c.args.toList, c.argTypes.toList with
  | .builtin .len, [x], [t] => match st.ev x with
    | .sub _ _ _ n _ => (τ t).sl.isSome = true ∧ K (.val (.int .i64 (n : Int)))
    | .imm _ s _ => (τ t).sl.isSome = true ∧ K (.val (.int .i64 (s.len : Int)))
    | .nils _ => (τ t).sl.isSome = true ∧ K (.val (.int .i64 0))
    | .val (.string s) => (τ t).str = true ∧ K (.val (.int .i64 (s.size : Int)))
    | _ => False
  | _, _, _ => False

def pureVc (τ : Tab) (o : Op) (ty : TypeId) (st : St) (K : AV → Prop) : Prop :=
  match o with
  | .move x => K (st.evT τ ty x)
  | .assign x => K (st.evT τ ty x)
  | .pick c a b => match st.ev c with
    | .val (.bool t) => (t = true → K (st.evT τ ty a)) ∧ (t = false → K (st.evT τ ty b))
    | _ => False
  | .nilCheck x => match st.ev x with
    | .ptr k q => K (.ptr k q)
    | .iptr d => K (.iptr d)
    | .fn f s => K (.fn f s)
    | .mp k q => K (.mp k q)
    | _ => False
  | .binOp op t x y _ => binVc τ op t (st.ev x) (st.ev y) K
  | .unOp op _ x => match op, st.ev x with
    | .not, .val (.bool b) => BoolK K (!b)
    | .neg, .val (.int k n) => K (.val (.int k (k.wrap (0 - n))))
    | _, _ => False
  | .convert src dst x => match (τ src).int, (τ dst).int, st.ev x with
    | some _, some k, .val (.int _ n) => K (.val (.int k (k.wrap n)))
    | _, _, _ => False
  | .fieldAddr t x i => match st.ev x with
    | .ptr k q => fieldVc τ t ((st.tree k).at_ q) i ∧ K (.ptr k (q ++ [.f i]))
    | .iptr d => fieldVc τ t d i ∧ K (.iptr (d.at_ [.f i]))
    | _ => False
  | .indexAddr t x ix => match st.ev x, st.ev ix with
    | .sub k q lo n _, .val (.int _ i) => ((τ t).sl.map fun y => y.2.1) = some ((st.tree k).at_ q).esz ∧ (0 ≤ i ∧ i < (n : Int)) ∧ K (.ptr k (q ++ [.i (lo + i.toNat)]))
    | .imm z s _, .val (.int _ i) => ((τ t).sl.map fun y => y.2.1) = some z ∧ (0 ≤ i ∧ i < (s.len : Int)) ∧ K (.iptr (s.nth i.toNat))
    | _, _ => False
  | .extract x i => match st.ev x with
    | .tup (.cons a t) => i < (AV.cons a t).len ∧ K ((AV.cons a t).nth i)
    | _ => False
  | .call c => lenVc τ st c K
  | _ => False

theorem run_eqlBool {P : Program} {τ : Tab} (hτ : Tab.Ok P τ) {t : TypeId} (ht : (τ t).bool = true) (p q : Bool) (w : World) : (Op.equal t (.bool p) (.bool q)).run P w = .ok (p == q) w := by
  have hu := (hτ t).bool ht
  have key : ∀ d, (Op.equalIn (d + 1) t (.bool p) (.bool q)).run P w = .ok (p == q) w := fun d => by
    simp [Op.equalIn, run_underlying hu]
  exact key 9999

theorem run_eqlPtr {P : Program} {τ : Tab} (hτ : Tab.Ok P τ) {t : TypeId} (ht : (τ t).ptr = true) (a b : Option Addr) (h : a = none ∨ b = none) (w : World) :
    (Op.equal t (.pointer a) (.pointer b)).run P w = .ok (a.isNone && b.isNone) w := by
  obtain ⟨e, he⟩ := (hτ t).ptr ht
  have key : ∀ d, (Op.equalIn (d + 1) t (.pointer a) (.pointer b)).run P w = .ok (a.isNone && b.isNone) w := fun d => by
    cases a <;> cases b <;> first | (simp at h; done) | simp [Op.equalIn, run_underlying he]
  exact key 9999

theorem run_eqlSl {P : Program} {τ : Tab} (hτ : Tab.Ok P τ) {t : TypeId} (ht : (τ t).sl.isSome = true) (a : Option Addr) (n c : Nat) (w : World) :
    (Op.equal t (.slice a n c) (.slice none 0 0)).run P w = .ok a.isNone w := by
  cases hs : (τ t).sl with
  | none => rw [hs] at ht; cases ht
  | some y =>
    obtain ⟨e, z, by_, zv⟩ := y
    obtain ⟨hu, _⟩ := (hτ t).sl _ _ _ _ hs
    have key : ∀ d, (Op.equalIn (d + 1) t (.slice a n c) (.slice none 0 0)).run P w = .ok a.isNone w := fun d => by
      cases a <;> simp [Op.equalIn, run_underlying hu]
    exact key 9999

theorem bin_ok {P : Program} {τ : Tab} (hτ : Tab.Ok P τ) {op : BinOp} {t : TypeId} {x y : AV} {X Y : Operand} {a b : Value} {K : AV → Prop} {h : Array Obj} {I : Nat → Prop} {F : List G}
    (hx : Rl h I F x true [a]) (hy : Rl h I F y true [b]) (hv : binVc τ op t x y K) :
    ∃ v, K (.val v) ∧ v.oneCell' = true ∧ ∀ w, (do eqGuard op t X Y a b; binOp op t a b : Sem Value).run P w = .ok v w := by
  unfold binVc at hv
  split at hv
  · -- ints
    obtain ⟨hx, _⟩ := hx
    obtain ⟨hy, _⟩ := hy
    cases hx; cases hy
    unfold intVc BoolK at hv
    split at hv
    · obtain ⟨rfl, hv⟩ := hv; exact ⟨_, hv, rfl, fun w => by simp [eqGuard, binOp, Op.intArith]⟩
    · obtain ⟨rfl, hv⟩ := hv; exact ⟨_, hv, rfl, fun w => by simp [eqGuard, binOp, Op.intArith]⟩
    · obtain ⟨rfl, hv⟩ := hv; exact ⟨_, hv, rfl, fun w => by simp [eqGuard, binOp, Op.intArith]⟩
    · obtain ⟨rfl, hn, hv⟩ := hv; exact ⟨_, hv, rfl, fun w => by simp [eqGuard, binOp, Op.intDiv, hn]⟩
    · obtain ⟨rfl, hn, hv⟩ := hv; exact ⟨_, hv, rfl, fun w => by simp [eqGuard, binOp, Op.intDiv, hn]⟩
    · obtain ⟨h0, h1, hv⟩ := hv; exact ⟨_, hv, rfl, fun w => by simp [eqGuard, binOp, shift_shr _ _ _ _ h0 h1]⟩
    · obtain ⟨rfl, hv⟩ := hv; exact ⟨_, hv, rfl, fun w => by simp [eqGuard, binOp, Op.intCmp]; rfl⟩
    · obtain ⟨rfl, hv⟩ := hv; exact ⟨_, hv, rfl, fun w => by simp [eqGuard, binOp, Op.intCmp]; rfl⟩
    · obtain ⟨rfl, hv⟩ := hv; exact ⟨_, hv, rfl, fun w => by simp [eqGuard, binOp, Op.intCmp]⟩
    · obtain ⟨rfl, hv⟩ := hv; exact ⟨_, hv, rfl, fun w => by simp [eqGuard, binOp, Op.intCmp]⟩
    · obtain ⟨rfl, hv⟩ := hv; exact ⟨_, hv, rfl, fun w => by simp [eqGuard, binOp, Op.intCmp]⟩
    · obtain ⟨rfl, hv⟩ := hv; exact ⟨_, hv, rfl, fun w => by simp [eqGuard, binOp, Op.intCmp]⟩
    · exact hv.elim
  · -- strings
    obtain ⟨hx, _⟩ := hx
    obtain ⟨hy, _⟩ := hy
    cases hx; cases hy
    rename_i s u _ _
    have e1 := toList_beq s u
    unfold strVc BoolK sLess at hv
    split at hv
    · exact ⟨_, hv, rfl, fun w => by simp only [eqGuard, binOp, Op.stringOp, e1]; simp⟩
    · exact ⟨_, hv, rfl, fun w => by simp only [eqGuard, binOp, Op.stringOp, e1]; simp⟩
    · exact ⟨_, hv, rfl, fun w => by simp only [eqGuard, binOp, Op.stringOp, e1]; simp⟩
    · exact ⟨_, hv, rfl, fun w => by simp only [eqGuard, binOp, Op.stringOp, e1]; simp⟩
    · exact ⟨_, hv, rfl, fun w => by simp only [eqGuard, binOp, Op.stringOp, e1]; simp⟩
    · exact ⟨_, hv, rfl, fun w => by simp only [eqGuard, binOp, Op.stringOp, e1]; simp⟩
    · obtain ⟨hs, hv⟩ := hv
      refine ⟨_, hv, rfl, fun w => ?_⟩
      have : ¬ (((s.size + u.size : Nat) : Int) > IntKind.i64.max) := by
        have : IntKind.i64.max = 2 ^ 63 - 1 := rfl
        rw [this]; omega
      simp only [eqGuard, binOp, Op.stringOp, this]; simp
    · exact hv.elim
  · -- bools
    obtain ⟨hx, _⟩ := hx
    obtain ⟨hy, _⟩ := hy
    cases hx; cases hy
    obtain ⟨ht, hv⟩ := hv
    unfold eqVc BoolK at hv
    split at hv
    · exact ⟨_, hv, rfl, fun w => by simp [eqGuard, binOp, run_eqlBool hτ ht]⟩
    · exact ⟨_, hv, rfl, fun w => by simp [eqGuard, binOp, run_eqlBool hτ ht]⟩
    · exact hv.elim
  · obtain ⟨hx, _⟩ := hx
    obtain ⟨hy, _⟩ := hy
    cases hx; cases hy
    obtain ⟨ht, hv⟩ := hv
    unfold eqVc BoolK at hv
    split at hv
    · exact ⟨_, hv, rfl, fun w => by simp [eqGuard, binOp, run_eqlPtr hτ ht]⟩
    · exact ⟨_, hv, rfl, fun w => by simp [eqGuard, binOp, run_eqlPtr hτ ht]⟩
    · exact hv.elim
  · obtain ⟨b', o', _, hx⟩ := hx
    obtain ⟨hy, _⟩ := hy
    cases hx; cases hy
    obtain ⟨ht, hv⟩ := hv
    unfold eqVc BoolK at hv
    split at hv
    · exact ⟨_, hv, rfl, fun w => by simp [eqGuard, binOp, run_eqlPtr hτ ht]⟩
    · exact ⟨_, hv, rfl, fun w => by simp [eqGuard, binOp, run_eqlPtr hτ ht]⟩
    · exact hv.elim
  · obtain ⟨v', hx, g, xx, _, _, _, rfl, _⟩ := hx
    obtain ⟨hy, _⟩ := hy
    cases hx; cases hy
    obtain ⟨ht, hv⟩ := hv
    unfold eqVc BoolK at hv
    split at hv
    · exact ⟨_, hv, rfl, fun w => by simp [eqGuard, binOp, run_eqlPtr hτ ht]⟩
    · exact ⟨_, hv, rfl, fun w => by simp [eqGuard, binOp, run_eqlPtr hτ ht]⟩
    · exact hv.elim
  · obtain ⟨hy, _⟩ := hy
    cases hx; cases hy
    obtain ⟨ht, hv⟩ := hv
    unfold eqVc BoolK at hv
    split at hv
    · exact ⟨_, hv, rfl, fun w => by simp [eqGuard, binOp, run_eqlSl hτ ht]⟩
    · exact ⟨_, hv, rfl, fun w => by simp [eqGuard, binOp, run_eqlSl hτ ht]⟩
    · exact hv.elim
  · obtain ⟨v', hx, s', hs, hh, _⟩ := hx
    obtain ⟨hy, _⟩ := hy
    cases hx; cases hy
    obtain ⟨ht, hv⟩ := hv
    subst hs
    obtain ⟨A, n, c, rfl⟩ : ∃ A n c, a = .slice A n c := by
      have h5 := hh.2.2.2
      split at h5 <;> first | exact ⟨_, _, _, rfl⟩ | exact h5.elim
    have hA : s'.erase.len ≠ 0 → A.isNone = false := fun hl => by
      obtain ⟨h1, h2, _, h4, _⟩ := slice_cells rfl (w := { heap := h, tape := fun _ _ => 0, drawn := 0, os := default, output := #[] }) hh
      rw [T.erase_len] at hl
      cases A with
      | none => have := h4 rfl; omega
      | some _ => rfl
    have hv := hv A.isNone hA
    unfold eqVc BoolK at hv
    split at hv
    · exact ⟨_, hv, rfl, fun w => by simp [eqGuard, binOp, run_eqlSl hτ ht]⟩
    · exact ⟨_, hv, rfl, fun w => by simp [eqGuard, binOp, run_eqlSl hτ ht]⟩
    · exact hv.elim
  · obtain ⟨own, a0, z0, len0, v', _, hx, hs⟩ := hx
    obtain ⟨hy, _⟩ := hy
    cases hx; cases hy
    obtain ⟨ht, hv⟩ := hv
    obtain ⟨A, c, rfl, h1, h2, h3, _, h4⟩ := hs
    have hv := hv A.isNone (by
      intro hl
      split at h4
      · obtain ⟨rfl, rfl⟩ := h4; omega
      · obtain ⟨y, rfl, _⟩ := h4; rfl
      · exact h4.elim)
    unfold eqVc BoolK at hv
    split at hv
    · exact ⟨_, hv, rfl, fun w => by simp [eqGuard, binOp, run_eqlSl hτ ht]⟩
    · exact ⟨_, hv, rfl, fun w => by simp [eqGuard, binOp, run_eqlSl hτ ht]⟩
    · exact hv.elim
  · exact hv.elim

end Go.Vc

/- The operations that touch no memory hold what they promise. -/
namespace Go.Vc
set_option linter.all false
open T (hdr blk)

namespace T
theorem loc_deep {g : G} {q r : Path} {b o : Nat} (h : (g.at_ q).loc r = some (.abs b o)) : g.loc (q ++ r) = some (.abs b o) := by
  have nilloc : ∀ {r : Path} {b o}, ¬ (T.nil : G).loc r = some (.abs b o) := by
    intro r b o h
    cases r with
    | nil => simp [loc] at h
    | cons st r => cases st <;> simp [loc] at h
  induction q generalizing g with
  | nil => exact h
  | cons st q ih =>
    have key : ∀ (s : G) (i : Nat), ((s.nth i).at_ q).loc r = some (.abs b o) → i < s.len := by
      intro s i hh
      rcases Nat.lt_or_ge i s.len with h' | h'
      · exact h'
      · rw [nth_ge h'] at hh
        have : ∀ q : Path, (T.nil : G).at_ q = .nil := fun q => by
          cases q with
          | nil => rfl
          | cons st q => cases st <;> rfl
        rw [this] at hh
        exact absurd hh nilloc
    cases g <;> cases st <;> simp only [T.at_] at h <;> try exact absurd h nilloc
    case agg.f s i => simp only [List.cons_append, loc, if_pos (key s i h), ih h]
    case sl.i own a z s i => simp only [List.cons_append, loc, if_pos (key s i h), ih h]
    case box.d own a g => simp only [List.cons_append, loc, ih h]
    case map.i own a s i => simp only [List.cons_append, loc, if_pos (key s i h), ih h]
end T

theorem addr_add (b o n : Nat) : (⟨b, o, none⟩ : Addr).add n = ⟨b, o + n, none⟩ := by unfold Addr.add; split <;> simp_all

theorem run_v {P : Program} {s : Sem Value} {v : Value} {w w' : World} (h : s.run P w = .ok v w') : (do pure (.value (← s)) : Sem Next).run P w = .ok (.value v) w' := by
  rw [Sem.run_bind, h]; rfl

theorem Inv.tree {c : Cx} {st : St} {w : World} {I : Nat → Prop} {F : List G} (hi : Inv c st.X st.κ w I F) {k : Nat} {g : G} (hg : F[k]? = some g) : st.tree k = g.erase := by
  unfold St.tree
  rw [← hi.erase, List.getD_eq_getElem?_getD, List.getElem?_map, hg]; rfl

theorem field_run {P : Program} {τ : Tab} (hτ : Tab.Ok P τ) {t : TypeId} {i : Nat} {s : D} (hf : ((τ t).st.bind fun l => (l[i]?).map (·.1)) = some (s.offs i)) (b o : Nat) (w : World) :
    (Instr.fieldAt t (.pointer (some ⟨b, o, none⟩)) i).run P w = .ok (.pointer (some ⟨b, o + s.offs i, none⟩)) w := by
  cases hl : (τ t).st with
  | none => rw [hl] at hf; simp at hf
  | some l =>
    rw [hl] at hf
    simp only [Option.bind_some, Option.map_eq_some_iff] at hf
    obtain ⟨x, hx, hx2⟩ := hf
    obtain ⟨fs, h1, h2, h3, h4⟩ := (hτ t).st l hl
    rw [← h2, List.getElem?_map] at hx
    cases hfi : fs.toList[i]? with
    | none => rw [hfi] at hx; cases hx
    | some f =>
      rw [hfi] at hx
      simp only [Option.map_some, Option.some.injEq] at hx
      have hfa : fs[i]? = some f := by rw [← Array.getElem?_toList]; exact hfi
      have hfm : f ∈ fs.toList := List.mem_of_getElem? hfi
      have hsome := h3 f hfm
      rw [Option.isSome_iff_exists] at hsome
      obtain ⟨inf, hinf⟩ := hsome
      have hne : inf.size ≠ 0 := by
        have := List.all_eq_true.1 h4 (f.offset, P.cellsOf f.type) (by rw [← h2]; exact List.mem_map_of_mem hfm)
        simpa [Program.cellsOf, hinf] using this
      have hoff : f.offset = s.offs i := by rw [← hx2, ← hx]
      simp [Instr.fieldAt, run_underlying h1, hfa, Instr.sureAddr, fieldPlace, sizeOf, typeInfo, hinf, hne, addr_add, hoff]

theorem Iptr_part {h : Array Obj} {I : Nat → Prop} {s : D} {i : Nat} (hi : i < s.len) {v : Value} (H : IptrRel h I (.agg s) v) :
    ∃ b o, v = .pointer (some ⟨b, o, none⟩) ∧ IptrRel h I (s.nth i) (.pointer (some ⟨b, o + s.offs i, none⟩)) := by
  obtain ⟨g, x, h1, h2, h3, rfl, h5, h6, row, e, h7, h8⟩ := H
  obtain ⟨xb, xo, xs⟩ := x
  simp only at h5
  subst h5
  cases g <;> simp only [T.erase] at h1 <;> try cases h1
  rename_i s'
  refine ⟨xb, xo, rfl, s'.nth i, _, T.erase_nth s' i, T.Holds.nth (s := s') h2 i, T.free_nth (s := s') h3 i, rfl, rfl, h6, row, e, h7, fun j u hu => ?_⟩
  rw [T.erase_len] at hi
  have h9 := T.cells_nth hi hu
  have h10 := h8 _ _ h9
  have hoffs : ∀ (s : G) k, s.erase.offs k = s.offs k := by
    intro s
    induction s with
    | cons a t _ iht => intro k; cases k with
      | zero => rfl
      | succ k => simp [T.erase, T.offs, T.erase_width, iht]
    | _ => intro k; cases k <;> rfl
  rw [hoffs]
  rw [← h10]; congr 1; simp only; omega

theorem Imm_part {h : Array Obj} {I : Nat → Prop} {z : Nat} {s : D} {ex : Bool} {i : Nat} (hi : i < s.len) {v : Value} (H : ImmRel h I z s ex v) :
    ∃ b o n c, v = .slice (some ⟨b, o, none⟩) n c ∧ n = s.len ∧ IptrRel h I (s.nth i) (.pointer (some ⟨b, o + i * z, none⟩)) := by
  obtain ⟨s', h1, h2, h3⟩ := H
  obtain ⟨H1, H2, H3, H4⟩ := h2
  subst h1
  rw [T.erase_len] at hi
  split at H4
  · omega
  · omega
  · rename_i x n c
    obtain ⟨g1, g2, g3, g4, g5, row, e, g6, g7, g8⟩ := H4
    obtain ⟨xb, xo, xs⟩ := x
    simp only at g1
    subst g1
    refine ⟨xb, xo, n, c + 1, rfl, by rw [T.erase_len]; exact g2, s'.nth i, _, T.erase_nth s' i, H1.nth i, T.free_nth (H3 rfl) i, rfl, rfl, g5 rfl, row, e, g6, fun j u hu => ?_⟩
    have h9 := T.cells_nth hi hu
    rw [T.uni_offs H2 (Nat.le_of_lt hi)] at h9
    rw [← g8 _ _ h9]; congr 1; simp only; omega
  · exact H4.elim

theorem pure_ok {c : Cx} {τ : Tab} (hτ : Tab.Ok c.P τ) {st : St} {a : Act} {w : World} {I : Nat → Prop} {F : List G} (hi : Inv c st.X st.κ w I F) (he : EnvOk st.env a w I F) {o : Oper} {K : AV → Prop}
    (hv : pureVc τ o.op o.type st K) : ∃ av v, K av ∧ Rl w.heap I F av true [v] ∧ ∀ w', (execOp a.eval o).run c.P w' = .ok (.value v) w' := by
  obtain ⟨dst, op, ty, pos, after, guard⟩ := o
  simp only at hv
  unfold pureVc at hv
  split at hv
  · exact ⟨_, _, hv, he.evT _ _, fun w' => rfl⟩
  · exact ⟨_, _, hv, he.evT _ _, fun w' => rfl⟩
  · -- pick
    rename_i cc x y
    split at hv
    · rename_i t ht
      have hc := he.ev cc
      rw [ht] at hc
      obtain ⟨h1, _⟩ := hc
      simp only [List.cons.injEq, and_true] at h1
      cases t with
      | true => exact ⟨_, _, hv.1 rfl, he.evT _ _, fun w' => by simp [execOp, h1, asBool]⟩
      | false => exact ⟨_, _, hv.2 rfl, he.evT _ _, fun w' => by simp [execOp, h1, asBool]⟩
    · exact hv.elim
  · -- nilCheck
    rename_i x
    have hx := he.ev x
    split at hv
    · rename_i k q hk
      rw [hk] at hx
      obtain ⟨b, o, h1, h2⟩ := id hx
      simp only [List.cons.injEq, and_true] at h2
      exact ⟨_, _, hv, hx, fun w' => by simp [execOp, h2]⟩
    · rename_i d hk
      rw [hk] at hx
      obtain ⟨v, h1, g, xx, h2, h3, h4, h5, h6⟩ := id hx
      simp only [List.cons.injEq, and_true] at h1
      rw [h5] at h1
      exact ⟨_, _, hv, hx, fun w' => by simp [execOp, h1]⟩
    · rename_i f s hk
      rw [hk] at hx
      obtain ⟨l, h1, h2⟩ := id hx
      simp only [List.cons.injEq, and_true] at h1
      exact ⟨_, _, hv, hx, fun w' => by simp [execOp, h1]⟩
    · rename_i k q hk
      rw [hk] at hx
      obtain ⟨_, r, _, _, h1, h2⟩ := id hx
      simp only [List.cons.injEq, and_true] at h2
      exact ⟨_, _, hv, hx, fun w' => by simp [execOp, h2]⟩
    · exact hv.elim
  · -- binOp
    rename_i op t x y yt
    obtain ⟨v, h1, h2, h3⟩ := bin_ok hτ (he.ev x) (he.ev y) (X := x) (Y := y) hv
    exact ⟨.val v, v, h1, ⟨rfl, h2⟩, fun w' => run_v (h3 w')⟩
  · -- unOp
    rename_i op t x
    have hx := he.ev x
    split at hv
    · rename_i b hb
      rw [hb] at hx
      obtain ⟨h1, _⟩ := hx
      simp only [List.cons.injEq, and_true] at h1
      exact ⟨_, _, hv, ⟨rfl, rfl⟩, fun w' => by simp [execOp, h1, Op.unary]⟩
    · rename_i k n hb
      rw [hb] at hx
      obtain ⟨h1, _⟩ := hx
      simp only [List.cons.injEq, and_true] at h1
      exact ⟨_, _, hv, ⟨rfl, rfl⟩, fun w' => by simp [execOp, h1, Op.unary, Op.intArith]⟩
    · exact hv.elim
  · -- convert
    rename_i src dst' x
    have hx := he.ev x
    split at hv
    · rename_i k1 k2 k n h1 h2 h3
      rw [h3] at hx
      obtain ⟨h4, _⟩ := hx
      simp only [List.cons.injEq, and_true] at h4
      have u1 := (hτ src).int _ h1
      have u2 := (hτ dst').int _ h2
      exact ⟨_, _, hv, ⟨rfl, rfl⟩, fun w' => by simp [execOp, h4, convert, run_underlying u1, run_underlying u2, Conv.intToInt]⟩
    · exact hv.elim
  · -- fieldAddr
    rename_i t x i
    have hx := he.ev x
    split at hv
    · rename_i k q hk
      rw [hk] at hx
      obtain ⟨b, o, h1, h2⟩ := hx
      simp only [List.cons.injEq, and_true] at h2
      obtain ⟨hf, hv⟩ := hv
      unfold locF at h1
      cases hg : F[k]? with
      | none => rw [hg] at h1; simp at h1
      | some g =>
        rw [hg] at h1
        simp only [Option.bind_some] at h1
        rw [hi.tree hg] at hf
        unfold fieldVc at hf
        split at hf
        · rename_i s hs
          obtain ⟨hlen, hf⟩ := hf
          refine ⟨_, .pointer (some ⟨b, o + s.offs i, none⟩), hv, ⟨b, o + s.offs i, ?_, rfl⟩, fun w' => ?_⟩
          · simp only [locF, hg, Option.bind_some]
            rw [← T.erase_at] at hs
            cases hgq : g.at_ q with
            | agg s' =>
              rw [hgq] at hs
              simp only [T.erase, T.agg.injEq] at hs
              subst hs
              rw [T.erase_len] at hlen
              have hoffs : ∀ (s : G) k, s.erase.offs k = s.offs k := by
                intro s
                induction s with
                | cons a t _ iht => intro k; cases k with
                  | zero => rfl
                  | succ k => simp [T.erase, T.offs, T.erase_width, iht]
                | _ => intro k; cases k <;> rfl
              rw [hoffs]
              have := T.loc_append_rel (q := [.f i]) (o := s'.offs i) (by rw [hgq]; simp [T.loc, hlen]) h1
              simpa [Loc.shift] using this
            | _ => rw [hgq] at hs; simp [T.erase] at hs
          · simp only [execOp, h2]
            exact run_v (field_run hτ hf b o w')
        · exact hf.elim
    · rename_i d hk
      rw [hk] at hx
      obtain ⟨v, h1, hir⟩ := hx
      simp only [List.cons.injEq, and_true] at h1
      obtain ⟨hf, hv⟩ := hv
      unfold fieldVc at hf
      split at hf
      · rename_i s
        obtain ⟨hlen, hf⟩ := hf
        obtain ⟨b, o, h3, h4⟩ := Iptr_part hlen hir
        refine ⟨_, .pointer (some ⟨b, o + s.offs i, none⟩), hv, ⟨_, rfl, by simpa [T.at_] using h4⟩, fun w' => ?_⟩
        simp only [execOp, h1, h3]
        exact run_v (field_run hτ hf b o w')
      · exact hf.elim
    · exact hv.elim
  · -- indexAddr
    rename_i t x ix
    have hx := he.ev x
    have hix := he.ev ix
    split at hv
    · rename_i k q lo n ex kk i h1 h2
      rw [h1] at hx
      rw [h2] at hix
      obtain ⟨own, a0, z0, len0, v, hh, h3, hs⟩ := hx
      obtain ⟨h4, _⟩ := hix
      simp only [List.cons.injEq, and_true] at h3 h4
      obtain ⟨hz, ⟨hi0, hin⟩, hv⟩ := hv
      obtain ⟨A, cc, rfl, q1, q2, q3, q4, q5⟩ := hs
      unfold hdrF at hh
      cases hg : F[k]? with
      | none => rw [hg] at hh; simp at hh
      | some g =>
        rw [hg] at hh
        simp only [Option.bind_some] at hh
        rw [hi.tree hg, ← T.erase_at] at hz
        have hHg := hi.holds g (List.mem_of_getElem? hg)
        have hHq := hHg.at_ q
        split at q5
        · omega
        · rename_i xx nn cap
          obtain ⟨y, rfl, r1, r2, r3, r4, r5⟩ := q5
          obtain ⟨yb, yo, ys⟩ := y
          simp only at r1 r2 r5 r4
          subst r1
          cases hgq : g.at_ q with
          | sl o' a' z' s' =>
            rw [hgq] at hh hz hHq
            simp only [hdr, Option.some.injEq, Prod.mk.injEq] at hh
            obtain ⟨rfl, rfl, rfl, rfl⟩ := hh
            simp only [T.erase, T.esz] at hz
            cases hsl : (τ t).sl with
            | none => rw [hsl] at hz; cases hz
            | some yy =>
              obtain ⟨e, zz, by_, zv⟩ := yy
              rw [hsl] at hz
              simp only [Option.map_some, Option.some.injEq] at hz
              subst hz
              obtain ⟨u1, inf, u2, u3, u4, u5, u6⟩ := (hτ t).sl _ _ _ _ hsl
              have hin' : i.toNat < n := by omega
              obtain ⟨cap, rfl⟩ : ∃ k, cap = k + 1 := ⟨cap - 1, by omega⟩
              refine ⟨_, .pointer (some ⟨yb, yo + i.toNat * zz, none⟩), hv, ⟨yb, yo + i.toNat * zz, ?_, rfl⟩, fun w' => ?_⟩
              · simp only [locF, hg, Option.bind_some]
                have hj : lo + i.toNat < s'.len := by omega
                have := r5 (by omega)
                refine T.loc_deep (q := q) (r := [.i (lo + i.toNat)]) ?_
                rw [hgq]
                simp only [T.loc, hj, if_true, T.headAt, r2, Option.some.injEq, Loc.abs.injEq]
                refine ⟨trivial, ?_⟩
                rw [this, Nat.add_mul]; omega
              · simp only [execOp, h3, h4]
                refine run_v ?_
                simp [Instr.indexAt, asIntOf, run_underlying u1, hi0, hin, sizeOf, typeInfo, u2, u4, addr_add]
          | box o' a' g' =>
            exfalso
            rw [hgq] at hh hHq
            simp only [hdr, Option.some.injEq, Prod.mk.injEq] at hh
            obtain ⟨rfl, rfl, rfl, rfl⟩ := hh
            exact hHq.2.2
          | map o' a' s' =>
            exfalso
            rw [hgq] at hh hHq
            simp only [hdr, Option.some.injEq, Prod.mk.injEq] at hh
            obtain ⟨rfl, rfl, rfl, rfl⟩ := hh
            exact hHq.2.2
          | _ => rw [hgq] at hh; simp [hdr] at hh
        · exact q5.elim
    · rename_i z s ex kk i h1 h2
      rw [h1] at hx
      rw [h2] at hix
      obtain ⟨v, h3, him⟩ := hx
      obtain ⟨h4, _⟩ := hix
      simp only [List.cons.injEq, and_true] at h3 h4
      obtain ⟨hz, ⟨hi0, hin⟩, hv⟩ := hv
      obtain ⟨b, o, n, cc, h5, h6, h7⟩ := Imm_part (i := i.toNat) (by omega) him
      cases hsl : (τ t).sl with
      | none => rw [hsl] at hz; cases hz
      | some yy =>
        obtain ⟨e, zz, by_, zv⟩ := yy
        rw [hsl] at hz
        simp only [Option.map_some, Option.some.injEq] at hz
        subst hz
        obtain ⟨u1, inf, u2, u3, u4, u5, u6⟩ := (hτ t).sl _ _ _ _ hsl
        refine ⟨_, _, hv, ⟨_, rfl, h7⟩, fun w' => ?_⟩
        have hin' : i < (n : Int) := by omega
        simp only [execOp, h3, h4, h5]
        refine run_v ?_
        simp [Instr.indexAt, asIntOf, run_underlying u1, hi0, hin', sizeOf, typeInfo, u2, u4, addr_add]
    · exact hv.elim
  · -- extract
    rename_i x i
    have hx := he.ev x
    split at hv
    · rename_i s t hs
      rw [hs] at hx
      obtain ⟨l, h1, h2⟩ := hx
      simp only [List.cons.injEq, and_true] at h1
      obtain ⟨v, h3, h4⟩ := Rl.nthV h2 ⟨_, _, rfl⟩ hv.1
      refine ⟨_, v, hv.2, h4, fun w' => ?_⟩
      simp only [execOp, h1]
      refine run_v ?_
      simp [Instr.extract, h3]
    · exact hv.elim
  · -- len
    rename_i cl
    obtain ⟨callee, args, argTypes⟩ := cl
    obtain ⟨args⟩ := args
    obtain ⟨argTypes⟩ := argTypes
    unfold lenVc at hv
    split at hv
    rotate_left
    · exact hv.elim
    rename_i x t hcal harg hat
    simp only at hcal harg hat
    subst hcal harg hat
    have hx := he.ev x
    split at hv
    · rename_i k q lo n ex hk
      rw [hk] at hx
      obtain ⟨_, _, _, _, v, _, h3, hs⟩ := hx
      simp only [List.cons.injEq, and_true] at h3
      obtain ⟨A, cc, rfl, _⟩ := hs
      cases hsl : (τ t).sl with
      | none => rw [hsl] at hv; cases hv.1
      | some yy =>
        obtain ⟨e, zz, by_, zv⟩ := yy
        obtain ⟨u1, _⟩ := (hτ t).sl _ _ _ _ hsl
        refine ⟨_, .int .i64 n, hv.2, ⟨rfl, rfl⟩, fun w' => ?_⟩
        simp [execOp, resolve, invoke, builtin, Builtin.len_, h3, run_underlying u1, goInt]
    · rename_i z s ex hk
      rw [hk] at hx
      obtain ⟨v, h3, s', h4, h5, _⟩ := hx
      simp only [List.cons.injEq, and_true] at h3
      subst h4
      obtain ⟨A, n, cc, rfl, hn⟩ : ∃ A n cc, v = .slice A n cc ∧ n = s'.len := by
        have h6 := h5.2.2.2
        split at h6
        · exact ⟨_, _, _, rfl, by omega⟩
        · exact ⟨_, _, _, rfl, by omega⟩
        · exact ⟨_, _, _, rfl, h6.2.1⟩
        · exact h6.elim
      cases hsl : (τ t).sl with
      | none => rw [hsl] at hv; cases hv.1
      | some yy =>
        obtain ⟨e, zz, by_, zv⟩ := yy
        obtain ⟨u1, _⟩ := (hτ t).sl _ _ _ _ hsl
        refine ⟨.val (.int .i64 n), .int .i64 n, ?_, ⟨rfl, rfl⟩, fun w' => ?_⟩
        · have := hv.2
          rw [T.erase_len, ← hn] at this; exact this
        · simp [execOp, resolve, invoke, builtin, Builtin.len_, h3, run_underlying u1, goInt]
    · rename_i z hk
      rw [hk] at hx
      simp only [Rl, List.cons.injEq, and_true] at hx
      cases hsl : (τ t).sl with
      | none => rw [hsl] at hv; cases hv.1
      | some yy =>
        obtain ⟨e, zz, by_, zv⟩ := yy
        obtain ⟨u1, _⟩ := (hτ t).sl _ _ _ _ hsl
        refine ⟨_, .int .i64 0, hv.2, ⟨rfl, rfl⟩, fun w' => ?_⟩
        simp [execOp, resolve, invoke, builtin, Builtin.len_, hx, run_underlying u1, goInt]
    · rename_i s hk
      rw [hk] at hx
      obtain ⟨h3, _⟩ := hx
      simp only [List.cons.injEq, and_true] at h3
      have u1 := (hτ t).str hv.1
      refine ⟨_, .int .i64 s.size, hv.2, ⟨rfl, rfl⟩, fun w' => ?_⟩
      simp [execOp, resolve, invoke, builtin, Builtin.len_, h3, run_underlying u1, goInt]
    · exact hv.elim
  · exact hv.elim

end Go.Vc

/- Loads, struct values, stretches of slices. -/
namespace Go.Vc
set_option linter.all false
open T (hdr blk)

def plLook : List (Nat × Path × AV) → Nat → Path → AV
  | [], _, _ => .bad
  | (k', q', a) :: l, k, q => if k' = k ∧ q' = q then (bif a.isOne then a else .bad) else plLook l k q

/-- What is read at a place. -/
def AV.ofD (pl : List (Nat × Path × AV)) (k : Nat) : Path → Nat → D → AV
  | _, _, .val v => .val v
  | q, _, .junk _ => plLook pl k q
  | _, _, .sl false _ z s => .imm z s false
  | q, _, .sl true _ _ s => .sub k q 0 s.len false
  | _, _, .box false _ g => .iptr g
  | q, _, .box true _ _ => .ptr k (q ++ [.d])
  | q, _, .map _ _ _ => .mp k q
  | _, _, .nil => .nil
  | q, i, .cons h t => .cons (AV.ofD pl k (q ++ [.f i]) 0 h) (AV.ofD pl k q (i + 1) t)
  | q, _, .agg s => .agg (AV.ofD pl k q 0 s)

/-- What is read at a place that cannot change. -/
def AV.ofI : D → AV
  | .val v => .val v
  | .junk _ => .bad
  | .sl _ _ z s => .imm z s false
  | .box _ _ g => .iptr g
  | .map _ _ _ => .bad
  | .nil => .nil
  | .cons h t => .cons (AV.ofI h) (AV.ofI t)
  | .agg s => .agg (AV.ofI s)

/-- Parts in rows, rows in aggregates (false: one part; true: a row). -/
def okRow {α : Type} : T α → Bool → Bool
  | .cons h t, true => okRow h false && okRow t true
  | .nil, true => true
  | .agg s, false => okRow s true
  | .cons _ _, false => false
  | .nil, false => false
  | _, true => false
  | _, false => true

theorem okRow_erase {α : Type} (s : T α) (m : Bool) : okRow s.erase m = okRow s m := by
  induction s generalizing m with
  | cons h t ihh iht => cases m <;> simp [okRow, T.erase, ihh, iht]
  | agg s ih => cases m <;> simp [okRow, T.erase, ih]
  | _ => cases m <;> rfl

def ldOk (τ : Tab) (t : TypeId) (d : D) : Prop :=
  match d with
  | .agg s => okRow s true = true ∧ (τ t).ld = some (true, s.width)
  | .nil => False
  | .cons _ _ => False
  | _ => (τ t).ld = some (false, 1)

def loadVc (τ : Tab) (o : Op) (st : St) (K : AV → Prop) : Prop :=
  match o with
  | .load t x => match st.ev x with
    | .ptr k q => ldOk τ t ((st.tree k).at_ q) ∧ K (AV.ofD st.pl k q 0 ((st.tree k).at_ q))
    | .iptr d => ldOk τ t d ∧ K (AV.ofI d)
    | _ => False
  | _ => False

theorem plLook_ok {w : World} {I : Nat → Prop} {F : List G} {pl : List (Nat × Path × AV)} (hp : PlOk pl w I F) {k : Nat} {q : Path} {g : G} {v : Value} (hg : F[k]? = some g) (hq : g.at_ q = .junk v)
    (h1 : v.oneCell' = true) : Rl w.heap I F (plLook pl k q) false [v] := by
  induction pl with
  | nil => exact ⟨v, rfl, h1⟩
  | cons x l ih =>
    obtain ⟨k', q', a⟩ := x
    simp only [plLook]
    split
    · rename_i he
      obtain ⟨rfl, rfl⟩ := he
      obtain ⟨g', v', h2, h3, h4⟩ := hp k' q' a List.mem_cons_self
      rw [hg] at h2; cases h2
      rw [hq] at h3; cases h3
      cases a.isOne with
      | true => exact h4
      | false => exact ⟨v, rfl, h1⟩
    · exact ih fun k q av hm => hp k q av (List.mem_cons_of_mem _ hm)

theorem Holds_sl_nil {h : Array Obj} {I : Nat → Prop} {o : Bool} {a : Value} {z : Nat} {s : G} (H : T.Holds h I (.sl o a z s)) : SubRel a z s.len 0 s.len false a := by
  obtain ⟨_, _, _, H4⟩ := H
  split at H4
  · obtain ⟨rfl, rfl, h3⟩ := H4
    exact ⟨none, 0, by rw [h3], by omega, by omega, by omega, (by intro h; cases h), rfl, rfl⟩
  · rename_i x n
    obtain ⟨rfl, g1, h3⟩ := H4
    exact ⟨some x, 0, by rw [h3], by omega, by omega, by omega, (by intro h; cases h), x, rfl, g1, rfl, by omega, by omega, fun h => by omega⟩
  · rename_i x n c
    obtain ⟨g1, g2, g3, g4, _⟩ := H4
    exact ⟨some x, c + 1, by rw [g2], by omega, by omega, g4, (by intro h; cases h), x, rfl, g1, rfl, by omega, Nat.le_refl _, fun _ => by simp⟩
  · exact H4.elim

/-- Reading a tree at a place. 'sq': the run of a sequence from part 'i' on. -/
theorem ofD_rl {w : World} {I : Nat → Prop} {F : List G} {pl : List (Nat × Path × AV)} (hp : PlOk pl w I F) {k : Nat} {g : G} (hg : F[k]? = some g) :
    ∀ (s : G) (m : Bool) (q : Path) (i : Nat), okRow s m = true → T.Holds w.heap I s →
      (m = false → g.at_ q = s) → (m = true → ∃ s0, g.at_ q = .agg s0 ∧ ∀ j, s0.nth (i + j) = s.nth j) → Rl w.heap I F (AV.ofD pl k q i s.erase) false s.cells := by
  intro s
  induction s with
  | val v => intro m q i _ H _ _; exact ⟨rfl, H⟩
  | junk v =>
    intro m q i hr H hq _
    cases m with
    | true => cases hr
    | false => exact plLook_ok hp hg (hq rfl) H
  | nil => intro m q i _ _ _ _; exact rfl
  | cons a t iha iht =>
    intro m q i hr H _ hq
    cases m with
    | false => cases hr
    | true =>
      simp only [okRow, Bool.and_eq_true] at hr
      obtain ⟨s0, h1, h2⟩ := hq rfl
      refine ⟨_, _, rfl, iha false (q ++ [.f i]) 0 hr.1 H.1 (fun _ => ?_) (by intro h; cases h), iht true q (i + 1) hr.2 H.2 (by intro h; cases h) fun _ => ⟨s0, h1, fun j => ?_⟩⟩
      · rw [T.at_append, h1]
        have := h2 0
        simpa [T.at_, T.nth] using this
      · rw [show i + 1 + j = i + (j + 1) by omega, h2]; rfl
  | agg s ih =>
    intro m q i hr H hq _
    cases m with
    | true => cases hr
    | false => exact ih true q 0 hr H (by intro h; cases h) fun _ => ⟨s, hq rfl, fun j => by simp⟩
  | sl o a z s ih =>
    intro m q i hr H hq hz
    obtain rfl : m = false := by cases m <;> first | rfl | cases hr
    clear hz
    replace hq := hq rfl
    cases o with
    | false => exact ⟨a, rfl, s, rfl, H, (by intro h; cases h)⟩
    | true =>
      refine ⟨true, a, z, s.len, a, ?_, rfl, ?_⟩
      · simp [hdrF, hg, hq, hdr]
      · rw [T.erase_len]; exact Holds_sl_nil H
  | box o a b ih =>
    intro m q i hr H hq hz
    obtain rfl : m = false := by cases m <;> first | rfl | cases hr
    clear hz
    replace hq := hq rfl
    obtain ⟨H1, H2, H3⟩ := H
    split at H3
    · rename_i x
      obtain ⟨h1, h2, h3⟩ := H3
      cases o with
      | false => exact ⟨_, rfl, b, x, rfl, H1, H2 rfl, rfl, h1, h2 rfl, h3⟩
      | true =>
        obtain ⟨xb, xo, xs⟩ := x
        simp only at h1
        subst h1
        refine ⟨xb, xo, ?_, rfl⟩
        simp only [locF, hg, Option.bind_some]
        refine T.loc_deep ?_
        rw [hq]
        simp [T.loc, T.headAt]
    · exact H3.elim
  | map o a s ih =>
    intro m q i hr H hq hz
    obtain rfl : m = false := by cases m <;> first | rfl | cases hr
    clear hz
    replace hq := hq rfl
    obtain ⟨H1, H2, H3⟩ := H
    split at H3
    · exact ⟨o, _, 0, s.len, by simp [hdrF, hg, hq, hdr], rfl⟩
    · exact H3.elim

theorem ofI_rl {h : Array Obj} {I : Nat → Prop} {F : List G} : ∀ (s : G), T.Holds h I s → s.free = true → Rl h I F (AV.ofI s.erase) false s.cells := by
  intro s
  induction s with
  | val v => intro H _; exact ⟨rfl, H⟩
  | junk v => intro H _; exact ⟨v, rfl, H⟩
  | nil => intro _ _; exact rfl
  | cons a t iha iht =>
    intro H hf
    simp only [T.free, Bool.and_eq_true] at hf
    exact ⟨_, _, rfl, iha H.1 hf.1, iht H.2 hf.2⟩
  | agg s ih => intro H hf; exact ih H hf
  | sl o a z s ih =>
    intro H hf
    simp only [T.free, Bool.and_eq_true, Bool.not_eq_true'] at hf
    obtain ⟨rfl, hf⟩ := hf
    exact ⟨a, rfl, s, rfl, H, (by intro h; cases h)⟩
  | box o a b ih =>
    intro H hf
    simp only [T.free, Bool.and_eq_true, Bool.not_eq_true'] at hf
    obtain ⟨rfl, hf⟩ := hf
    obtain ⟨H1, H2, H3⟩ := H
    split at H3
    · rename_i x
      obtain ⟨h1, h2, h3⟩ := H3
      exact ⟨_, rfl, b, x, rfl, H1, hf, rfl, h1, h2 rfl, h3⟩
    · exact H3.elim
  | map o a s ih =>
    intro H hf
    refine ⟨a, rfl, ?_⟩
    have := H.2.2
    split at this <;> first | rfl | exact this.elim

theorem run_loadAt {P : Program} {τ : Tab} (hτ : Tab.Ok P τ) {t : TypeId} {d : D} (hd : ldOk τ t d) {w : World} {b o : Nat} {cs : List Value} (hr : T.RowAt w.heap b o cs) (hl : cs.length = d.width) :
    ∃ v, (Instr.loadAt t (.pointer (some ⟨b, o, none⟩))).run P w = .ok v w ∧ ((∃ s, d = .agg s ∧ v = .agg cs.toArray) ∨ (cs = [v] ∧ ∀ s, d ≠ .agg s)) := by
  obtain ⟨row, e, h1, h2⟩ := hr
  have hcell : ∀ j v, cs[j]? = some v → w.cell? ((⟨b, o, none⟩ : Addr).add j) = some v := fun j v hv => by
    rw [addr_add, cell_of_row w b (o + j) row e (0, 0) h1]
    exact h2 j v hv
  have one : (τ t).ld = some (false, 1) → d.width = 1 → ∃ v, (Instr.loadAt t (.pointer (some ⟨b, o, none⟩))).run P w = .ok v w ∧ cs = [v] := fun hld hw => by
    obtain ⟨ha, hu, i, hi, hs⟩ := (hτ t).ld _ _ hld
    rw [hw] at hl
    match cs, hl with
    | [v], _ =>
      refine ⟨v, ?_, rfl⟩
      have hc := hcell 0 v rfl
      have hz : (⟨b, o, none⟩ : Addr).add 0 = ⟨b, o, none⟩ := rfl
      rw [hz] at hc
      rw [Option.isSome_iff_exists] at hu
      obtain ⟨td, hu⟩ := hu
      unfold aggTy at ha
      rw [hu] at ha
      simp [Instr.loadAt, Instr.sureAddr, loadVar, isAgg, run_underlying hu]
      cases td <;> simp_all
  unfold ldOk at hd
  split at hd
  · rename_i s
    obtain ⟨_, hd⟩ := hd
    obtain ⟨ha, hu, i, hi, hs⟩ := (hτ t).ld _ _ hd
    refine ⟨.agg cs.toArray, ?_, .inl ⟨s, rfl, rfl⟩⟩
    rw [Option.isSome_iff_exists] at hu
    obtain ⟨td, hu⟩ := hu
    have hl' : i.size = cs.length := by rw [hs, hl]; rfl
    have hload := run_loadCells_list (P := P) w ⟨b, o, none⟩ cs hcell
    rw [← hl'] at hload
    unfold aggTy at ha
    rw [hu] at ha
    simp [Instr.loadAt, Instr.sureAddr, loadVar, isAgg, run_underlying hu, sizeOf, typeInfo, hi]
    cases td <;> simp_all
  · exact hd.elim
  · exact hd.elim
  · rename_i h1 h2 h3
    have hw : d.width = 1 := by
      cases d <;> first | rfl | exact (h1 _ rfl).elim | exact (h2 rfl).elim | exact (h3 _ _ rfl).elim
    obtain ⟨v, hv, hc⟩ := one hd hw
    exact ⟨v, hv, .inr ⟨hc, h1⟩⟩

theorem ldOk_row {τ : Tab} {t : TypeId} {d : D} (h : ldOk τ t d) : okRow d false = true := by
  unfold ldOk at h
  split at h
  · exact h.1
  · exact h.elim
  · exact h.elim
  · rename_i h1 h2 h3
    cases d <;> first | rfl | exact (h1 _ rfl).elim | exact (h2 rfl).elim | exact (h3 _ _ rfl).elim

/-- A run of cells that reads as a part, as the value that a load gives. -/
theorem Rl.loaded {h : Array Obj} {I : Nat → Prop} {F : List G} {av : AV} {d : D} {cs : List Value} {v : Value} (H : Rl h I F av false cs)
    (hv : (∃ s, d = .agg s ∧ v = .agg cs.toArray) ∨ (cs = [v] ∧ ∀ s, d ≠ .agg s)) (ha : (∃ s, d = .agg s) → ∃ s, av = .agg s) (hb : (∀ s, d ≠ .agg s) → av.isOne = true ∨ av = .bad) : Rl h I F av true [v] := by
  rcases hv with ⟨s, h1, rfl⟩ | ⟨rfl, h1⟩
  · obtain ⟨s', rfl⟩ := ha ⟨s, h1⟩
    exact H.ofAgg
  · rcases hb h1 with h2 | rfl
    · obtain ⟨u, h3, h4, _⟩ := H.ofOne h2
      cases h3; exact h4
    · exact ⟨v, rfl⟩

theorem ofI_form (d : D) : ((∃ s, d = .agg s) → ∃ s, AV.ofI d = .agg s) ∧ ((∀ s, d ≠ .agg s) → okRow d false = true → (AV.ofI d).isOne = true ∨ AV.ofI d = .bad) := by
  cases d <;> simp [AV.ofI, AV.isOne, okRow]

theorem plLook_form (pl : List (Nat × Path × AV)) (k : Nat) (q : Path) : (plLook pl k q).isOne = true ∨ plLook pl k q = .bad := by
  induction pl with
  | nil => exact .inr rfl
  | cons x l ih =>
    obtain ⟨k', q', a⟩ := x
    simp only [plLook]
    split
    · cases h : a.isOne with
      | true => exact .inl h
      | false => exact .inr rfl
    · exact ih

theorem ofD_form (pl : List (Nat × Path × AV)) (k : Nat) (q : Path) (d : D) : ((∃ s, d = .agg s) → ∃ s, AV.ofD pl k q 0 d = .agg s) ∧
    ((∀ s, d ≠ .agg s) → okRow d false = true → (AV.ofD pl k q 0 d).isOne = true ∨ AV.ofD pl k q 0 d = .bad) := by
  cases d with
  | junk a => simp [AV.ofD, okRow]; exact plLook_form pl k q
  | sl o a z s => cases o <;> simp [AV.ofD, AV.isOne, okRow]
  | box o a g => cases o <;> simp [AV.ofD, AV.isOne, okRow]
  | _ => simp [AV.ofD, AV.isOne, okRow]

/-- The world's old blocks are as they were. -/
def Ext (w w' : World) : Prop := ∀ b, b < w.heap.size → w'.heap[b]? = w.heap[b]?

theorem load_ok {c : Cx} {τ : Tab} (hτ : Tab.Ok c.P τ) {st : St} {a : Act} {w : World} {I : Nat → Prop} {F : List G} (hi : Inv c st.X st.κ w I F) (he : EnvOk st.env a w I F) (hp : PlOk st.pl w I F)
    {o : Oper} {K : AV → Prop} (hv : loadVc τ o.op st K) : ∃ av v, K av ∧ Rl w.heap I F av true [v] ∧ ∀ w', Ext w w' → (execOp a.eval o).run c.P w' = .ok (.value v) w' := by
  obtain ⟨dst, op, ty, pos, after, guard⟩ := o
  simp only at hv
  unfold loadVc at hv
  split at hv
  · rename_i t x
    have hx := he.ev x
    split at hv
    · rename_i k q hk
      rw [hk] at hx
      obtain ⟨b, o, h1, h2⟩ := hx
      simp only [List.cons.injEq, and_true] at h2
      obtain ⟨hld, hv⟩ := hv
      unfold locF at h1
      cases hg : F[k]? with
      | none => rw [hg] at h1; simp at h1
      | some g =>
        rw [hg] at h1
        simp only [Option.bind_some] at h1
        have ht := hi.tree hg
        have hH := hi.holds g (List.mem_of_getElem? hg)
        have hrow := T.loc_read hH h1
        have hrow : T.RowAt w.heap b o (g.at_ q).cells := hrow
        have hd : (st.tree k).at_ q = (g.at_ q).erase := by rw [ht, T.erase_at]
        rw [hd] at hld hv
        have hlen : (g.at_ q).cells.length = ((g.at_ q).erase).width := by rw [T.cells_length, T.erase_width]
        have hrl := ofD_rl hp hg (g.at_ q) false q 0 (by rw [← okRow_erase]; exact ldOk_row hld) (hH.at_ q) (fun _ => rfl) (by intro h; cases h)
        obtain ⟨v, hr, hvv⟩ := run_loadAt (P := c.P) hτ hld hrow hlen
        obtain ⟨f1, f2⟩ := ofD_form st.pl k q (g.at_ q).erase
        refine ⟨_, v, hv, hrl.loaded hvv f1 fun h => f2 h (ldOk_row hld), fun w' hw' => ?_⟩
        have hb : b < w.heap.size := by
          obtain ⟨row, e, h3, _⟩ := hrow
          rcases Nat.lt_or_ge b w.heap.size with h' | h'
          · exact h'
          · rw [Array.getElem?_eq_none h'] at h3; cases h3
        have hrow' : T.RowAt w'.heap b o (g.at_ q).cells := by
          obtain ⟨row, e, h3, h4⟩ := hrow
          exact ⟨row, e, by rw [hw' b hb]; exact h3, h4⟩
        obtain ⟨v', hr', hvv'⟩ := run_loadAt (P := c.P) hτ hld hrow' hlen
        have hvv2 : v' = v := by
          rcases hvv with ⟨s, h3, h4⟩ | ⟨h3, h4⟩ <;> rcases hvv' with ⟨s', h5, h6⟩ | ⟨h5, h6⟩
          · rw [h4, h6]
          · exact absurd h3 (h6 s)
          · exact absurd h5 (h4 s')
          · rw [h3] at h5; cases h5; rfl
        rw [hvv2] at hr'
        simp only [execOp, h2]
        exact run_v hr'
    · rename_i d hk
      rw [hk] at hx
      obtain ⟨v0, h1, g, x0, h2, h3, h4, rfl, h5, h6, h7⟩ := hx
      simp only [List.cons.injEq, and_true] at h1
      obtain ⟨hld, hv⟩ := hv
      obtain ⟨xb, xo, xs⟩ := x0
      simp only at h5 h6 h7
      subst h5
      subst h2
      have hlen : g.cells.length = g.erase.width := by rw [T.cells_length, T.erase_width]
      obtain ⟨v, hr, hvv⟩ := run_loadAt (P := c.P) hτ hld h7 hlen
      obtain ⟨f1, f2⟩ := ofI_form g.erase
      refine ⟨_, v, hv, (ofI_rl g h3 h4).loaded hvv f1 fun h => f2 h (ldOk_row hld), fun w' hw' => ?_⟩
      have hrow' : T.RowAt w'.heap xb xo g.cells := by
        obtain ⟨row, e, h8, h9⟩ := h7
        exact ⟨row, e, by rw [hw' xb (hi.ilt xb h6)]; exact h8, h9⟩
      obtain ⟨v', hr', hvv'⟩ := run_loadAt (P := c.P) hτ hld hrow' hlen
      have hvv2 : v' = v := by
        rcases hvv with ⟨s, h8, h9⟩ | ⟨h8, h9⟩ <;> rcases hvv' with ⟨s', h10, h11⟩ | ⟨h10, h11⟩
        · rw [h9, h11]
        · exact absurd h8 (h11 s)
        · exact absurd h10 (h9 s')
        · rw [h8] at h10; cases h10; rfl
      rw [hvv2] at hr'
      simp only [execOp, h1]
      exact run_v hr'
    · exact hv.elim
  · exact hv.elim

end Go.Vc

/- Stretches of slices, struct values. -/
namespace Go.Vc
set_option linter.all false
open T (hdr blk)

theorem sub_slice {a : Value} {z len lo n c l h m : Nat} {ex : Bool} {A : Option Addr} {b : Bool} (H : SubRel a z len lo n ex (.slice A n c)) (h1 : l ≤ h) (h2 : h ≤ n) (h3 : h ≤ m) (h4 : m ≤ c) (hb : b = true → m = h) :
    SubRel a z len (lo + l) (h - l) b (.slice (if m = l then A else A.map (·.add (l * z))) (h - l) (m - l)) := by
  obtain ⟨A0, c0, he, q1, q2, q3, q4, q5⟩ := H
  cases he
  refine ⟨_, _, rfl, by omega, by omega, by omega, fun hh => by rw [hb hh], ?_⟩
  split at q5
  · obtain ⟨rfl, rfl⟩ := q5
    refine ⟨?_, by omega⟩
    split <;> rfl
  · rename_i x nn cap
    obtain ⟨y, rfl, r1, r2, r3, r4, r5⟩ := q5
    obtain ⟨yb, yo, ys⟩ := y
    simp only at r1 r2 r4 r5
    subst r1
    by_cases hm : m = l
    · rw [if_pos hm]
      refine ⟨_, rfl, rfl, r2, by omega, ?_, fun hh => by omega⟩
      have : m - l = 0 := by omega
      rw [this]
      simp only [Nat.zero_mul]
      omega
    · rw [if_neg hm]
      have hoff := r5 (by omega)
      simp only [Option.map_some, addr_add]
      refine ⟨_, rfl, rfl, r2, by omega, ?_, fun _ => ?_⟩
      · simp only
        rw [hoff]
        have e1 : (lo + c) * z ≤ cap * z := Nat.mul_le_mul_right _ r3
        have e2 : (m - l) * z + l * z = m * z := by rw [← Nat.add_mul]; congr 1; omega
        have e3 : m * z ≤ c * z := Nat.mul_le_mul_right _ h4
        rw [Nat.add_mul] at e1
        omega
      · simp only
        rw [hoff, Nat.add_mul]; omega
  · exact q5.elim

/-- A bound of a slice expression: the value, or what stands for it. -/
def boundVc (x : Option AV) (dflt : Nat) (K : Nat → Prop) : Prop :=
  match x with
  | none => K dflt
  | some (.val (.int _ i)) => 0 ≤ i ∧ K i.toNat
  | _ => False

def sliceVc (τ : Tab) (st : St) (t : TypeId) (x : AV) (lo hi mx : Option AV) (K : AV → Prop) : Prop :=
  match x with
  | .sub k q l0 n ex => ((τ t).sl.map fun y => y.2.1) = some ((st.tree k).at_ q).esz ∧
      boundVc lo 0 fun l => boundVc hi n fun h => boundVc mx h fun m => l ≤ h ∧ h ≤ n ∧ m = h ∧ K (.sub k q (l0 + l) (h - l) (mx.isSome || (ex && hi.isNone)))
  | .imm z s ex => ((τ t).sl.map fun y => y.2.1) = some z ∧
      boundVc lo 0 fun l => boundVc hi s.len fun h => boundVc mx h fun m => l ≤ h ∧ h ≤ s.len ∧ m = h ∧ K (.imm z (s.mid l (h - l)) (mx.isSome || (ex && hi.isNone)))
  | .val (.string s) => (τ t).str = true ∧ mx = none ∧
      boundVc lo 0 fun l => boundVc hi s.size fun h => l ≤ h ∧ h ≤ s.size ∧ K (.val (.string (s.extract l h)))
  | _ => False

theorem bound_of {x : Option AV} {d : Nat} {K : Nat → Prop} (h : boundVc x d K) : ∃ n, K n ∧ ((x = none ∧ n = d) ∨ ∃ kk i, x = some (.val (.int kk i)) ∧ 0 ≤ i ∧ n = i.toNat) := by
  unfold boundVc at h
  split at h
  · exact ⟨_, h, .inl ⟨rfl, rfl⟩⟩
  · exact ⟨_, h.2, .inr ⟨_, _, rfl, h.1, rfl⟩⟩
  · exact h.elim

/-- An operand that may be there, and its value. -/
def RlO (h : Array Obj) (I : Nat → Prop) (F : List G) (x : Option AV) (v : Option Value) : Prop :=
  match x, v with
  | none, none => True
  | some x, some v => Rl h I F x true [v]
  | _, _ => False

theorem RlO.int {h : Array Obj} {I : Nat → Prop} {F : List G} {kk : IntKind} {i : Int} {v : Option Value} (H : RlO h I F (some (.val (.int kk i))) v) : v = some (.int kk i) := by
  cases v with
  | none => exact H.elim
  | some v =>
    obtain ⟨h1, _⟩ := H
    cases h1; rfl

theorem RlO.nothing {h : Array Obj} {I : Nat → Prop} {F : List G} {v : Option Value} (H : RlO h I F none v) : v = none := by
  cases v with
  | none => rfl
  | some v => exact H.elim

theorem run_bound {P : Program} {kk : IntKind} {i : Int} {y : Nat} {code : BoundsCode} {w : World} (h0 : 0 ≤ i) (h1 : i.toNat ≤ y) : (Instr.sliceBound (.int kk i) y code).run P w = .ok i.toNat w := by
  have : 0 ≤ i ∧ i ≤ (y : Int) := ⟨h0, by omega⟩
  simp [Instr.sliceBound, asIntOf, this]

theorem run_bounds {P : Program} {h : Array Obj} {I : Nat → Prop} {F : List G} {isS : Bool} {len cap : Nat} {lo hi mx : Option AV} {vl vh vm : Option Value} {l hh m : Nat} {w : World}
    (rl : RlO h I F lo vl) (rh : RlO h I F hi vh) (rm : RlO h I F mx vm) (hl : (lo = none ∧ l = 0) ∨ ∃ kk i, lo = some (.val (.int kk i)) ∧ 0 ≤ i ∧ l = i.toNat)
    (hhi : (hi = none ∧ hh = len) ∨ ∃ kk i, hi = some (.val (.int kk i)) ∧ 0 ≤ i ∧ hh = i.toNat) (hmx : (mx = none) ∨ ∃ kk i, mx = some (.val (.int kk i)) ∧ 0 ≤ i ∧ m = i.toNat)
    (h1 : l ≤ hh) (h2 : hh ≤ cap) (h3 : mx ≠ none → hh ≤ m ∧ m ≤ cap ∧ hi ≠ none) :
    (Instr.sliceBounds isS len cap vl vh vm).run P w = .ok (l, hh, bif mx.isSome then m else cap) w := by
  rcases hmx with rfl | ⟨kk, i, rfl, hi0, rfl⟩
  · have := rm.nothing
    subst this
    rcases hhi with ⟨rfl, rfl⟩ | ⟨kk', i', rfl, hi0', rfl⟩
    · have := rh.nothing
      subst this
      rcases hl with ⟨rfl, rfl⟩ | ⟨kk2, i2, rfl, hi2, rfl⟩
      · have := rl.nothing
        subst this
        simp [Instr.sliceBounds]
      · rw [rl.int]
        simp [Instr.sliceBounds, run_bound hi2 h1]
    · rw [rh.int]
      rcases hl with ⟨rfl, rfl⟩ | ⟨kk2, i2, rfl, hi2, rfl⟩
      · have := rl.nothing
        subst this
        simp [Instr.sliceBounds, run_bound hi0' h2]
      · rw [rl.int]
        simp [Instr.sliceBounds, run_bound hi2 h1, run_bound hi0' h2]
  · rw [rm.int]
    obtain ⟨q1, q2, q3⟩ := h3 (by simp)
    rcases hhi with ⟨rfl, rfl⟩ | ⟨kk', i', rfl, hi0', rfl⟩
    · exact absurd rfl q3
    · rw [rh.int]
      rcases hl with ⟨rfl, rfl⟩ | ⟨kk2, i2, rfl, hi2, rfl⟩
      · have := rl.nothing
        subst this
        simp [Instr.sliceBounds, run_bound hi0' q1, run_bound hi0 q2]
      · rw [rl.int]
        simp [Instr.sliceBounds, run_bound hi2 h1, run_bound hi0' q1, run_bound hi0 q2]

theorem slice_ok {c : Cx} {τ : Tab} (hτ : Tab.Ok c.P τ) {st : St} {w : World} {I : Nat → Prop} {F : List G} (hi : Inv c st.X st.κ w I F) {t : TypeId} {x : AV} {v : Value} {lo hi' mx : Option AV}
    {vl vh vm : Option Value} (hx : Rl w.heap I F x true [v]) (rl : RlO w.heap I F lo vl) (rh : RlO w.heap I F hi' vh) (rm : RlO w.heap I F mx vm) (hmh : mx ≠ none → hi' ≠ none) {K : AV → Prop} (hv : sliceVc τ st t x lo hi' mx K) :
    ∃ av v', K av ∧ Rl w.heap I F av true [v'] ∧ ∀ w', (Instr.sliceAt t v vl vh vm).run c.P w' = .ok v' w' := by
  unfold sliceVc at hv
  split at hv
  · rename_i k q l0 n ex
    obtain ⟨hz, hv⟩ := hv
    obtain ⟨l, hv, hl⟩ := bound_of hv
    obtain ⟨h, hv, hh⟩ := bound_of hv
    obtain ⟨m, hv, hm⟩ := bound_of hv
    obtain ⟨h1, h2, h3, hK⟩ := hv
    obtain ⟨own, a0, z0, len0, v0, hd, h4, hs⟩ := hx
    cases h4
    obtain ⟨A, cc, rfl, q1, q2, q3, q4, q5⟩ := id hs
    cases hsl : (τ t).sl with
    | none => rw [hsl] at hz; cases hz
    | some yy =>
      obtain ⟨e, zz, by_, zv⟩ := yy
      rw [hsl] at hz
      simp only [Option.map_some, Option.some.injEq] at hz
      obtain ⟨u1, inf, u2, u3, u4, u5, u6⟩ := (hτ t).sl _ _ _ _ hsl
      have hez : zz = z0 := by
        unfold hdrF at hd
        cases hg : F[k]? with
        | none => rw [hg] at hd; simp at hd
        | some g =>
          rw [hg] at hd
          simp only [Option.bind_some] at hd
          rw [hi.tree hg, ← T.erase_at] at hz
          have hHq := (hi.holds g (List.mem_of_getElem? hg)).at_ q
          cases hgq : g.at_ q with
          | sl o' a' z' s' =>
            rw [hgq] at hd hz
            simp only [hdr, Option.some.injEq, Prod.mk.injEq] at hd
            obtain ⟨_, _, rfl, _⟩ := hd
            exact hz
          | box o' a' g' =>
            exfalso
            rw [hgq] at hd hHq
            simp only [hdr, Option.some.injEq, Prod.mk.injEq] at hd
            obtain ⟨_, rfl, _, _⟩ := hd
            have := hHq.2.2
            split at this <;> simp_all
          | map o' a' s' =>
            exfalso
            rw [hgq] at hd hHq
            simp only [hdr, Option.some.injEq, Prod.mk.injEq] at hd
            obtain ⟨_, rfl, _, _⟩ := hd
            have := hHq.2.2
            split at this <;> simp_all
          | _ => rw [hgq] at hd; simp [hdr] at hd
      subst hez
      have hb := run_bounds (P := c.P) (isS := true) (len := n) (cap := cc) (m := m) (w := w) rl rh rm hl hh
      have key : ∀ (mm : Nat) (b : Bool), (∀ w', (Instr.sliceBounds true n cc vl vh vm).run c.P w' = .ok (l, h, mm) w') → h ≤ mm → mm ≤ cc → (b = true → mm = h) →
          b = (mx.isSome || (ex && hi'.isNone)) → ∃ av v', K av ∧ Rl w.heap I F av true [v'] ∧ ∀ w', (Instr.sliceAt t (.slice A n cc) vl vh vm).run c.P w' = .ok v' w' := by
        intro mm b hr hm1 hm2 hb1 hb2
        have hs' := sub_slice (m := mm) (b := b) hs h1 h2 hm1 hm2 hb1
        refine ⟨_, .slice (if mm = l then A else A.map (·.add (l * zz))) (h - l) (mm - l), hK, ?_, fun w' => ?_⟩
        · rw [← hb2]
          exact ⟨own, a0, zz, len0, _, hd, rfl, hs'⟩
        · simp [Instr.sliceAt, Instr.slice, run_underlying u1, hr w', sizeOf, typeInfo, u2, u4]
      rcases hm with ⟨rfl, _⟩ | ⟨kk, i, hmx, hi0, rfl⟩
      · refine key cc (ex && hi'.isNone) (fun w' => ?_) (by omega) (Nat.le_refl _) (fun hh' => ?_) (by simp)
        · exact run_bounds (m := m) rl rh rm hl hh (.inl rfl) h1 (by omega) (fun h => absurd rfl h)
        · simp only [Bool.and_eq_true, Option.isNone_iff_eq_none] at hh'
          rcases hh with ⟨_, rfl⟩ | ⟨kk, i, hhi, _⟩
          · exact q4 hh'.1
          · rw [hhi] at hh'; cases hh'.2
      · refine key i.toNat true (fun w' => ?_) (by omega) (by omega) (fun _ => h3) (by rw [hmx]; rfl)
        have := run_bounds (P := c.P) (isS := true) (len := n) (cap := cc) (w := w') rl rh rm hl hh (.inr ⟨kk, i, hmx, hi0, rfl⟩) h1 (by omega) (fun hn => ⟨by omega, by omega, hmh hn⟩)
        rw [hmx] at this; exact this
  · rename_i z s ex
    obtain ⟨hz, hv⟩ := hv
    obtain ⟨l, hv, hl⟩ := bound_of hv
    obtain ⟨h, hv, hh⟩ := bound_of hv
    obtain ⟨m, hv, hm⟩ := bound_of hv
    obtain ⟨h1, h2, h3, hK⟩ := hv
    obtain ⟨v0, h4, s', hs1, hs2, hs3⟩ := hx
    cases h4
    subst hs1
    rw [T.erase_len] at h2 hh
    have hnil := Holds_sl_nil hs2
    obtain ⟨A, cc, rfl, q1, q2, q3, q4, q5⟩ := id hnil
    cases hsl : (τ t).sl with
    | none => rw [hsl] at hz; cases hz
    | some yy =>
      obtain ⟨e, zz, by_, zv⟩ := yy
      rw [hsl] at hz
      simp only [Option.map_some, Option.some.injEq] at hz
      subst hz
      obtain ⟨u1, inf, u2, u3, u4, u5, u6⟩ := (hτ t).sl _ _ _ _ hsl
      have key : ∀ (mm : Nat) (b : Bool), (∀ w', (Instr.sliceBounds true s'.len cc vl vh vm).run c.P w' = .ok (l, h, mm) w') → h ≤ mm → mm ≤ cc → (b = true → mm = h) →
          b = (mx.isSome || (ex && hi'.isNone)) → ∃ av v', K av ∧ Rl w.heap I F av true [v'] ∧ ∀ w', (Instr.sliceAt t (.slice A s'.len cc) vl vh vm).run c.P w' = .ok v' w' := by
        intro mm b hr hm1 hm2 hb1 hb2
        have hs' := sub_slice (m := mm) (b := b) hnil h1 h2 hm1 hm2 hb1
        obtain ⟨hst, hln⟩ := T.Holds.stretch hs2 hs'
        simp only [Nat.zero_add] at hst hln
        refine ⟨_, .slice (if mm = l then A else A.map (·.add (l * zz))) (h - l) (mm - l), hK, ?_, fun w' => ?_⟩
        · refine ⟨_, rfl, s'.mid l (h - l), T.erase_mid s' l (h - l), hst, fun he A' n' c' hAnc => ?_⟩
          cases hAnc
          rw [← hb2] at he
          have := hb1 he
          omega
        · simp [Instr.sliceAt, Instr.slice, run_underlying u1, hr w', sizeOf, typeInfo, u2, u4]
      rcases hm with ⟨rfl, _⟩ | ⟨kk, i, hmx, hi0, rfl⟩
      · refine key cc (ex && hi'.isNone) (fun w' => ?_) (by omega) (Nat.le_refl _) (fun hh' => ?_) (by simp)
        · exact run_bounds (m := m) rl rh rm hl hh (.inl rfl) h1 (by omega) (fun h => absurd rfl h)
        · simp only [Bool.and_eq_true, Option.isNone_iff_eq_none] at hh'
          rcases hh with ⟨_, rfl⟩ | ⟨kk, i, hhi, _⟩
          · exact hs3 hh'.1 _ _ _ rfl
          · rw [hhi] at hh'; cases hh'.2
      · refine key i.toNat true (fun w' => ?_) (by omega) (by omega) (fun _ => h3) (by rw [hmx]; rfl)
        have := run_bounds (P := c.P) (isS := true) (len := s'.len) (cap := cc) (w := w') rl rh rm hl hh (.inr ⟨kk, i, hmx, hi0, rfl⟩) h1 (by omega) (fun hn => ⟨by omega, by omega, hmh hn⟩)
        rw [hmx] at this; exact this
  · rename_i s
    obtain ⟨hstr, rfl, hv⟩ := hv
    obtain ⟨l, hv, hl⟩ := bound_of hv
    obtain ⟨h, hv, hh⟩ := bound_of hv
    obtain ⟨h1, h2, hK⟩ := hv
    obtain ⟨h4, _⟩ := hx
    cases h4
    have u1 := (hτ t).str hstr
    have := rm.nothing
    subst this
    refine ⟨_, .string (s.extract l h), hK, ⟨rfl, rfl⟩, fun w' => ?_⟩
    have hb := run_bounds (P := c.P) (isS := false) (len := s.size) (cap := s.size) (m := 0) (w := w') rl rh rm hl hh (.inl rfl) h1 h2 (fun h => absurd rfl h)
    simp [Instr.sliceAt, Instr.slice, run_underlying u1, hb]
  · exact hv.elim

end Go.Vc

/- Struct values and slices written out. -/
namespace Go.Vc
set_option linter.all false
open T (hdr blk)

def AV.setN : AV → Nat → AV → AV
  | .cons _ t, 0, x => .cons x t
  | .cons a t, i + 1, x => .cons a (t.setN i x)
  | s, _, _ => s

/-- A list with a run written into it. -/
def splice (l : List Value) (o : Nat) (m : List Value) : List Value := l.take o ++ m ++ l.drop (o + m.length)

section
variable {h : Array Obj} {I : Nat → Prop} {F : List G}

theorem Rl.setN {s : AV} {cs : List Value} (H : Rl h I F s false cs) {i : Nat} (hi : i < s.len) {av : AV} {cv : List Value} (hv : Rl h I F av false cv) (hw : cv.length = (s.nth i).width) :
    Rl h I F (s.setN i av) false (splice cs (s.offs i) cv) := by
  induction s generalizing cs i with
  | cons a t iha iht =>
    obtain ⟨v1, v2, rfl, h1, h2⟩ := H
    cases i with
    | zero =>
      refine ⟨cv, v2, ?_, hv, h2⟩
      simp only [AV.nth] at hw
      have := h1.width
      simp only [splice, AV.offs, List.take_zero, List.nil_append, Nat.zero_add]
      rw [hw, ← this, List.drop_left]
    | succ i =>
      simp only [AV.nth] at hw
      refine ⟨v1, splice v2 (t.offs i) cv, ?_, h1, iht h2 (by simpa [AV.len] using hi) hw⟩
      have := h1.width
      simp only [splice, AV.offs]
      rw [← this, List.take_append, List.drop_append]
      simp only [Nat.add_sub_cancel_left]
      rw [List.take_of_length_le (by omega), List.drop_of_length_le (by omega)]
      simp only [List.nil_append, List.append_assoc, List.append_cancel_left_eq]
      rw [show v1.length + t.offs i + cv.length - v1.length = t.offs i + cv.length by omega]
  | _ => simp [AV.len] at hi

theorem AV.len_setN (s : AV) (i : Nat) (x : AV) : (s.setN i x).len = s.len := by
  induction s generalizing i with
  | cons a t _ iht => cases i <;> simp [AV.setN, AV.len, iht]
  | _ => simp [AV.setN]

end

theorem foldl_cells (off : Nat) : ∀ (l : List Value) (k : Nat) (cells : Array Value), off + k + l.length ≤ cells.size →
    ((l.zipIdx k).foldl (fun (cs : Array Value) (x : Value × Nat) => cs.setIfInBounds (off + x.2) x.1) cells).toList = splice cells.toList (off + k) l := by
  intro l
  induction l with
  | nil => intro k cells _; simp [splice]
  | cons v l ih =>
    intro k cells hl
    simp only [List.length_cons] at hl
    simp only [List.zipIdx_cons, List.foldl_cons]
    rw [ih (k + 1) _ (by simp; omega)]
    simp only [splice, Array.toList_setIfInBounds, List.length_cons]
    have hk : off + k < cells.toList.length := by rw [Array.length_toList]; omega
    rw [show off + (k + 1) = off + k + 1 by omega, List.take_succ_eq_append_getElem (by simp; omega), List.take_set_of_le (by omega)]
    simp only [List.getElem_set_self, List.append_assoc, List.singleton_append]
    rw [List.drop_set_of_lt (by omega), show off + k + (l.length + 1) = off + k + 1 + l.length by omega]

theorem fill_step {place : Nat → Option (Nat × Nat)} {cells : Array Value} {i off size : Nat} {v : Value} {r : List (Nat × Value)} (hp : place i = some (off, size)) (hs : v.cells.size = size)
    (hf : off + size ≤ cells.size) : ∃ cells', cells'.toList = splice cells.toList off v.cells.toList ∧ cells'.size = cells.size ∧ Instr.fill place cells ((i, v) :: r) = Instr.fill place cells' r := by
  subst hs
  refine ⟨v.cells.zipIdx.foldl (fun cs (c, j) => cs.setIfInBounds (off + j) c) cells, ?_, ?_, ?_⟩
  · rw [← Array.foldl_toList, Array.toList_zipIdx]
    have := foldl_cells off v.cells.toList 0 cells (by simpa using hf)
    simpa using this
  · rw [← Array.foldl_toList, Array.toList_zipIdx]
    have := congrArg List.length (foldl_cells off v.cells.toList 0 cells (by simpa using hf))
    simp only [Array.length_toList, splice, Nat.add_zero, List.length_append, List.length_take, List.length_drop] at this
    rw [this]
    omega
  · have h1 : ¬ (v.cells.size ≠ v.cells.size || off + v.cells.size > cells.size) = true := by simp; omega
    simp only [Instr.fill, hp]
    rw [if_neg (by simpa using h1)]

/-- A part's operand: a bare nil where a slice's zero stands. -/
def St.evZ (st : St) (z : AV) (x : Operand) : AV :=
  match x, z with
  | .const (.slice none 0 0), .nils n => .nils n
  | x, _ => st.ev x

def partsVc (st : St) (place : Nat → Option (Nat × Nat)) : AV → List (Nat × Operand) → (AV → Prop) → Prop
  | s, [], K => K s
  | s, (i, x) :: r, K => i < s.len ∧ (st.evZ (s.nth i) x).isCell = true ∧ (st.evZ (s.nth i) x).width = (s.nth i).width ∧ place i = some (s.offs i, (s.nth i).width) ∧
      partsVc st place (s.setN i (st.evZ (s.nth i) x)) r K

theorem evZ_rl {st : St} {a : Act} {w : World} {I : Nat → Prop} {F : List G} (he : EnvOk st.env a w I F) (z : AV) (x : Operand) : Rl w.heap I F (st.evZ z x) true [a.eval x] := by
  unfold St.evZ
  split
  · exact rfl
  · exact he.ev x

theorem parts_ok {st : St} {a : Act} {w : World} {I : Nat → Prop} {F : List G} (he : EnvOk st.env a w I F) {place : Nat → Option (Nat × Nat)} {K : AV → Prop} :
    ∀ (parts : List (Nat × Operand)) (s : AV) (cells : Array Value), Rl w.heap I F s false cells.toList → partsVc st place s parts K →
      ∃ s' cells', K s' ∧ Rl w.heap I F s' false cells'.toList ∧ s'.len = s.len ∧ Instr.fill place cells (parts.map fun (i, x) => (i, a.eval x)) = some cells' := by
  intro parts
  induction parts with
  | nil => intro s cells H hv; exact ⟨s, cells, hv, H, rfl, rfl⟩
  | cons p r ih =>
    intro s cells H hv
    obtain ⟨i, x⟩ := p
    obtain ⟨h1, h2, h3, h4, h5⟩ := hv
    have hx := (evZ_rl he (s.nth i) x).toCells h2
    have hw := hx.width
    have hn := H.nth h1
    have hlen : s.offs i + (s.nth i).width ≤ cells.size := by
      have := hn.width
      simp only [List.length_take, List.length_drop, Array.length_toList] at this
      rcases Nat.eq_zero_or_pos (s.nth i).width with h0 | h0
      · rw [h0]
        have hle : s.offs i ≤ s.width := by
          have : ∀ (s : AV) i, i < s.len → s.offs i ≤ s.width := by
            intro s
            induction s with
            | cons a t _ iht => intro i hi; cases i with
              | zero => simp [AV.offs]
              | succ i => have := iht i (by simpa [AV.len] using hi); simp only [AV.offs, AV.width]; omega
            | _ => intro i hi; simp [AV.len] at hi
          exact this s i h1
        have := H.width
        simp only [Array.length_toList] at this
        omega
      · omega
    obtain ⟨cells', g1, g2, g3⟩ := fill_step (place := place) (cells := cells) (v := a.eval x) (r := r.map fun (i, x) => (i, a.eval x)) h4 (by rw [← h3, ← hw]; simp) hlen
    have H' := H.setN h1 hx (by rw [hw, h3])
    rw [← g1] at H'
    obtain ⟨s', c', k1, k2, k3, k4⟩ := ih _ cells' H' h5
    exact ⟨s', c', k1, k2, by rw [k3, AV.len_setN], by simp only [List.map_cons]; rw [g3]; exact k4⟩

/-! ### A struct value -/

def buildVc (τ : Tab) (st : St) (t : TypeId) (parts : List (Nat × Operand)) (K : AV → Prop) : Prop :=
  match (τ t).zero, (τ t).st, (τ t).ar with
  | some (.agg s), some l, _ => partsVc st (fun i => l[i]?) (AV.ofZ s) parts fun r => K (.agg r)
  | some (.agg s), none, some (_, z) => partsVc st (fun i => some (i * z, z)) (AV.ofZ s) parts fun r => K (.agg r)
  | _, _, _ => False

theorem zero_parts {P : Program} {τ : Tab} (hτ : Tab.Ok P τ) {t : TypeId} {g : G} (hz : (τ t).zero = some g) :
    zeroish g = true ∧ ∀ w, ∃ z, (zeroValue t).run P w = .ok z w ∧ z.cells.toList = g.cells := by
  obtain ⟨h1, i, z, h2, h3, h4⟩ := (hτ t).zero g hz
  exact ⟨h1, fun w => ⟨z, by simp [zeroValue, typeInfo, h2, h3], h4⟩⟩

theorem build_ok {c : Cx} {τ : Tab} (hτ : Tab.Ok c.P τ) {st : St} {a : Act} {w : World} {I : Nat → Prop} {F : List G} (he : EnvOk st.env a w I F) {t : TypeId} {parts : Array (Nat × Operand)} {K : AV → Prop}
    (hv : buildVc τ st t parts.toList K) : ∃ av v, K av ∧ Rl w.heap I F av true [v] ∧ ∀ w', (Instr.build t (parts.map fun (i, x) => (i, a.eval x))).run c.P w' = .ok v w' := by
  have hmap : (parts.map fun (i, x) => (i, a.eval x)).toList = parts.toList.map fun (i, x) => (i, a.eval x) := by simp
  unfold buildVc at hv
  split at hv
  · rename_i s l hz hst
    obtain ⟨h1, h2⟩ := zero_parts hτ hz
    obtain ⟨fs, u1, u2, u3, u4⟩ := (hτ t).st l hst
    obtain ⟨z, _, hzc⟩ := h2 w
    obtain ⟨s', c', k1, k2, _, k4⟩ := parts_ok he parts.toList (AV.ofZ s) z.cells (by rw [hzc]; exact ofZ_rl (g := s) h1) hv
    refine ⟨_, .agg c', k1, ⟨c'.toList, by simp, k2⟩, fun w' => ?_⟩
    obtain ⟨z', hr, hzc'⟩ := h2 w'
    have hzz : z'.cells = z.cells := Array.toList_inj.1 (hzc'.trans hzc.symm)
    have hplaces : ∀ (fs : List Field), (∀ f ∈ fs, (c.P.info? f.type).isSome = true) → ∀ w', (fs.mapM (fun (f : Field) => do pure (f.offset, ← sizeOf f.type) : Field → Sem (Nat × Nat))).run c.P w' =
        .ok (fs.map fun f => (f.offset, c.P.cellsOf f.type)) w' := by
      intro fs
      induction fs with
      | nil => intro _ w'; simp
      | cons f fs ih =>
        intro hf w'
        have h5 := hf f List.mem_cons_self
        rw [Option.isSome_iff_exists] at h5
        obtain ⟨inf, h5⟩ := h5
        have := ih (fun f hf' => hf f (List.mem_cons_of_mem _ hf')) w'
        have h6 : (sizeOf f.type).run c.P w' = .ok inf.size w' := by simp [sizeOf, typeInfo, h5]
        simp only [List.mapM_cons, Sem.run_bind, h6, Result.andThen_ok, Sem.run_pure, this]
        simp [Program.cellsOf, h5]
    have hpl : (fs.mapM (fun (f : Field) => do pure (f.offset, ← sizeOf f.type) : Field → Sem (Nat × Nat))).run c.P w' = .ok (fs.map fun f => (f.offset, c.P.cellsOf f.type)) w' := by
      rw [← Array.toArray_toList (xs := fs), Array.mapM_eq_mapM_toList]
      simp only [Sem.run_map, hplaces fs.toList u3 w', Result.andThen_ok]
      congr 1
      apply Array.ext'
      simp
    have hplace : (fun (i : Nat) => l[i]?) = fun (i : Nat) => (fs.map fun f => (f.offset, c.P.cellsOf f.type))[i]? := by
      funext i
      rw [← u2]; simp
    rw [hplace] at k4
    simp only [Instr.build, Sem.run_bind, hr, Result.andThen_ok, run_underlying u1, hpl, hmap, hzz, k4]
    rfl
  · rename_i s n z hz hst har
    obtain ⟨h1, h2⟩ := zero_parts hτ hz
    obtain ⟨e, u1, inf, u2, u3⟩ := (hτ t).ar _ _ har
    obtain ⟨zz, _, hzc⟩ := h2 w
    obtain ⟨s', c', k1, k2, _, k4⟩ := parts_ok he parts.toList (AV.ofZ s) zz.cells (by rw [hzc]; exact ofZ_rl (g := s) h1) hv
    refine ⟨_, .agg c', k1, ⟨c'.toList, by simp, k2⟩, fun w' => ?_⟩
    obtain ⟨z', hr, hzc'⟩ := h2 w'
    have hzz : z'.cells = zz.cells := Array.toList_inj.1 (hzc'.trans hzc.symm)
    simp only [Instr.build, Sem.run_bind, hr, Result.andThen_ok, run_underlying u1, sizeOf, typeInfo, hmap, hzz]
    simp [u2, u3, k4]
  · exact hv.elim

end Go.Vc

/- A part that keeps its header cells may be laid anew; a slice may be detached from its place. -/
namespace Go.Vc
set_option linter.all false
open T (hdr blk)

namespace T

theorem cells_setN_same {s : G} {k : Nat} {y : G} (h : k < s.len → y.cells = (s.nth k).cells) : (s.setN k y).cells = s.cells := by
  induction s generalizing k with
  | cons a t _ iht =>
    cases k with
    | zero => simp only [setN, cells]; rw [h (by simp [len])]; rfl
    | succ k => simp only [setN, cells]; rw [iht fun hk => h (by simpa [len] using hk)]
  | _ => simp [setN]

theorem cells_set_same {g x : G} {q : Path} (hk : g.okp q = true) (h : x.cells = (g.at_ q).cells) : (g.set q x).cells = g.cells := by
  induction q generalizing g with
  | nil => exact h
  | cons st q ih =>
    cases g <;> cases st <;> simp only [okp, Bool.and_eq_true, decide_eq_true_eq] at hk <;> try cases hk
    case agg.f.intro s i hi hk =>
      simp only [T.set, cells]
      exact cells_setN_same fun _ => ih hk h
    all_goals rfl

theorem entries_set_same {es : List MapEntry} {s : G} (h : entriesAre es s) {k : Nat} {p : Path} {x : G} (hk : (s.nth k).okp p = true) (hp : 2 ≤ p.length) (hx : x.cells = ((s.nth k).at_ p).cells) :
    entriesAre es (s.setN k ((s.nth k).set p x)) := by
  induction es generalizing s k with
  | nil => cases s <;> simp_all [entriesAre, setN]
  | cons e es ih =>
    unfold entriesAre at h
    split at h
    · simp_all
    · rename_i e' es' kk v t he
      obtain ⟨rfl, rfl⟩ := (List.cons.injEq .. ▸ he : e = e' ∧ es = es')
      obtain ⟨h1, h2, h3⟩ := h
      cases k with
      | zero =>
        simp only [T.nth] at hk hx ⊢
        cases p with
        | nil => simp at hp
        | cons st p =>
          cases st <;> simp only [okp, Bool.and_eq_true, decide_eq_true_eq] at hk <;> try cases hk
          rename_i i hi hk
          simp only [T.len] at hi
          match i, hi with
          | 0, _ =>
            simp only [T.nth] at hk
            cases p with
            | nil => simp at hp
            | cons st p => cases st <;> simp [okp] at hk
          | 1, _ =>
            simp only [T.nth] at hk
            simp only [T.at_, T.nth] at hx
            simp only [setN, T.set, T.nth, entriesAre]
            exact ⟨h1, by rw [cells_set_same hk hx]; exact h2, h3⟩
      | succ k =>
        simp only [T.nth] at hk hx ⊢
        simp only [setN, entriesAre]
        exact ⟨h1, h2, ih h3 hk hx⟩
    · exact h.elim

theorem width_of_cells {x y : G} (h : x.cells = y.cells) : x.width = y.width := by rw [← cells_length, ← cells_length, h]

/-- A part laid anew under the same header cells; memory may turn where the part's own blocks lie. (No path leads through an entry of a map to the entry's own cells.) -/
def noEntry {α : Type} (g : T α) : Path → Bool
  | [] => true
  | st :: p => match g, st with
    | .agg s, .f i => noEntry (s.nth i) p
    | .sl _ _ _ s, .i k => noEntry (s.nth k) p
    | .box _ _ g, .d => noEntry g p
    | .map _ _ s, .i k => decide (2 ≤ p.length) && noEntry (s.nth k) p
    | _, _ => true

theorem noEntry_erase {α : Type} (g : T α) (p : Path) : noEntry g.erase p = noEntry g p := by
  induction p generalizing g with
  | nil => rfl
  | cons st p ih => cases g <;> cases st <;> simp [noEntry, erase, ← erase_nth, ih]

theorem Holds.set_same {h h' : Array Obj} {I I' : Nat → Prop} {x : G} (hx : Holds h' I' x) (hi : ∀ b, I b → h'[b]? = h[b]?) (hI : ∀ b, I b → I' b) :
    ∀ {q : Path} {g : G}, Holds h I g → g.okp q = true → noEntry g q = true → x.cells = (g.at_ q).cells → (∀ b ∈ g.rest q, h'[b]? = h[b]?) → Holds h' I' (g.set q x) := by
  intro q
  induction q with
  | nil => intro g _ _ _ _ _; exact hx
  | cons st q ih =>
    intro g H hk hn hc ho
    cases g <;> cases st <;> simp only [okp, Bool.and_eq_true, decide_eq_true_eq] at hk <;> try cases hk
    case agg.f.intro s i hi' hk =>
      simp only [rest] at ho
      exact Holds.setN (s := s) H hi' (ih (Holds.nth (s := s) H i) hk hn hc fun b hb => ho b (by simp [hb])) (fun b hb => ho b (by simp [hb])) hi hI
    case sl.i.intro own a z s k hi' hk =>
      obtain ⟨hown, hlt⟩ := hi'
      subst hown
      simp only [rest] at ho
      obtain ⟨H1, H2, H3, H4⟩ := H
      have hsub := ih (Holds.nth H1 k) hk hn hc fun b hb => ho b (by simp [hb])
      have hcs : (s.setN k ((s.nth k).set q x)).cells = s.cells := cells_setN_same fun _ => cells_set_same hk hc
      have hws : ((s.nth k).set q x).width = (s.nth k).width := width_of_cells (cells_set_same hk hc)
      refine ⟨Holds.setN H1 hlt hsub (fun b hb => ho b (by simp [hb])) hi hI, uni_setN H2 hws, (by intro h0; cases h0), ?_⟩
      split at H4
      · exact ⟨H4.1, H4.2.1, by rw [len_setN]; exact H4.2.2⟩
      · exact ⟨H4.1, H4.2.1, by rw [len_setN]; exact H4.2.2⟩
      · rename_i y n c
        obtain ⟨g1, g2, g3, g3', g4, row, e, g6, g7, g8⟩ := H4
        exact ⟨g1, by rw [len_setN]; exact g2, g3, g3', (by intro h0; cases h0), row, e, by rw [ho _ (by simp [blk])]; exact g6, g7, by rw [hcs]; exact g8⟩
      · exact H4.elim
    case box.d.intro own a g hown hk =>
      subst hown
      simp only [rest] at ho
      obtain ⟨H1, H3, H4⟩ := H
      have hsub := ih H1 hk hn hc fun b hb => ho b (by simp [hb])
      refine ⟨hsub, (by intro h0; cases h0), ?_⟩
      split at H4
      · rename_i y
        obtain ⟨g1, g4, row, e, g6, g8⟩ := H4
        exact ⟨g1, (by intro h0; cases h0), row, e, by rw [ho _ (by simp [blk])]; exact g6, by rw [cells_set_same hk hc]; exact g8⟩
      · exact H4.elim
    case map.i.intro own a s k hi' hk =>
      obtain ⟨hown, hlt⟩ := hi'
      subst hown
      simp only [rest] at ho
      obtain ⟨H1, H3, H4⟩ := H
      simp only [noEntry, Bool.and_eq_true, decide_eq_true_eq] at hn
      have hsub := ih (Holds.nth H1 k) hk hn.2 hc fun b hb => ho b (by simp [hb])
      refine ⟨Holds.setN H1 hlt hsub (fun b hb => ho b (by simp [hb])) hi hI, (by intro h0; cases h0), ?_⟩
      split at H4
      · rename_i r
        obtain ⟨g4, es, c, g6, g8⟩ := H4
        exact ⟨(by intro h0; cases h0), es, c, by rw [ho _ (by simp [blk])]; exact g6, entries_set_same g8 hk hn.1 hc⟩
      · exact H4.elim

end T

/-- A slice leaves its place, which keeps its header cell. -/
def St.detach (nb : Nat) (st : St) (k : Nat) (q : Path) : St where
  env := st.env.kill [(k, q)]
  X := st.X.set k ((st.tree k).set q (.junk ())) ++ [(st.tree k).at_ q]
  κ := (bif Nat.ble nb k then [] else [(k, q)]) ++ st.κ
  pl := plKill [(k, q)] st.pl

def isNode {α : Type} : T α → Bool
  | .sl true _ _ _ => true
  | .box true _ _ => true
  | .map true _ _ => true
  | _ => false

theorem node_head {h : Array Obj} {I : Nat → Prop} {g : G} (H : T.Holds h I g) (hn : isNode g = true) : ∃ a, g.cells = [a] ∧ a.oneCell' = true := by
  cases g with
  | sl o a z s => exact ⟨a, rfl, H.one a (by simp [T.cells])⟩
  | box o a s => exact ⟨a, rfl, H.one a (by simp [T.cells])⟩
  | map o a s => exact ⟨a, rfl, H.one a (by simp [T.cells])⟩
  | _ => cases hn

theorem isNode_erase {α : Type} (g : T α) : isNode g.erase = isNode g := by
  cases g with
  | sl o a z s => cases o <;> rfl
  | box o a s => cases o <;> rfl
  | map o a s => cases o <;> rfl
  | _ => rfl

/-- Behind a change of one place the other places stay (whatever the place). -/
theorem keep_any {g x : G} {k : Nat} {q : Path} (hw : x.width = (g.at_ q).width) (hk : g.okp q = true) :
    (∀ q', dead [(k, q)] k q' false = false → (g.set q x).loc q' = g.loc q') ∧ (∀ q', dead [(k, q)] k q' true = false → hdr ((g.set q x).at_ q') = hdr (g.at_ q')) ∧
      (∀ q' v, g.at_ q' = .junk v → dead [(k, q)] k q' true = false → (g.set q x).at_ q' = .junk v) :=
  ⟨fun q' hd => T.loc_set hw (mpre_alive hd), fun q' hd => T.hdr_set (mpre_alive' hd), fun q' v hj hd => T.junk_set hk hj (mpre_alive' hd)⟩

/-- A slice (or map, or box) detached from its place: a root of its own. -/
theorem Rel.detach {c : Cx} {st : St} {a : Act} {w : World} (h : Rel c st a w) {k : Nat} {q : Path} (hlen : k < st.X.length) (hok : (st.tree k).okp q = true) (hn : isNode ((st.tree k).at_ q) = true)
    (hne : T.noEntry (st.tree k) q = true) :
    Rel c (st.detach c.F0.length k q) a w ∧ ∀ I F, Inv c st.X st.κ w I F → EnvOk st.env a w I F → PlOk st.pl w I F →
      ∃ F', Inv c (st.detach c.F0.length k q).X (st.detach c.F0.length k q).κ w I F' ∧ EnvOk (st.detach c.F0.length k q).env a w I F' ∧ PlOk (st.detach c.F0.length k q).pl w I F' ∧
        (∀ g, F[k]? = some g → F'[st.X.length]? = some (g.at_ q) ∧ ∃ v, (g.at_ q).cells = [v] ∧ v.oneCell' = true ∧ F'[k]? = some (g.set q (.junk v))) ∧ (∀ (j : Nat) (f : G), F[j]? = some f → j ≠ k → F'[j]? = some f) ∧ (∀ av m vs, av.dies [(k, q)] = false → Rl w.heap I F av m vs → Rl w.heap I F' av m vs) := by
  have key : ∀ I F, Inv c st.X st.κ w I F → EnvOk st.env a w I F → PlOk st.pl w I F →
      ∃ F', Inv c (st.detach c.F0.length k q).X (st.detach c.F0.length k q).κ w I F' ∧ EnvOk (st.detach c.F0.length k q).env a w I F' ∧ PlOk (st.detach c.F0.length k q).pl w I F' ∧
        (∀ g, F[k]? = some g → F'[st.X.length]? = some (g.at_ q) ∧ ∃ v, (g.at_ q).cells = [v] ∧ v.oneCell' = true ∧ F'[k]? = some (g.set q (.junk v))) ∧ (∀ (j : Nat) (f : G), F[j]? = some f → j ≠ k → F'[j]? = some f) ∧ (∀ av m vs, av.dies [(k, q)] = false → Rl w.heap I F av m vs → Rl w.heap I F' av m vs) := by
    intro I F hi he hp
    have hFl : F.length = st.X.length := by rw [← hi.erase]; simp
    obtain ⟨g, hg⟩ : ∃ g, F[k]? = some g := ⟨F[k]'(by omega), List.getElem?_eq_getElem (by omega)⟩
    have ht := hi.tree hg
    rw [ht] at hok hn hne
    rw [T.okp_erase] at hok
    rw [← T.erase_at, isNode_erase] at hn
    rw [T.noEntry_erase] at hne
    have hH := hi.holds g (List.mem_of_getElem? hg)
    obtain ⟨v, hv, h1⟩ := node_head (hH.at_ q) hn
    have hc : (T.junk v : G).cells = (g.at_ q).cells := by rw [hv]; rfl
    have hw : (T.junk v : G).width = (g.at_ q).width := T.width_of_cells hc
    have hset : T.Holds w.heap I (g.set q (.junk v)) := T.Holds.set_same (x := .junk v) h1 (fun _ _ => rfl) (fun _ h => h) hH hok hne hc (fun _ _ => rfl)
    have hcr := fun b => T.count_rest hok b
    have hcount : ∀ b, (own (F.set k (g.set q (.junk v)) ++ [g.at_ q])).count b = (own F).count b := fun b => by
      have h2 := own_set hg (g.set q (.junk v)) b
      have h3 := (hcr b).1
      have h4 := (hcr b).2 (.junk v)
      simp only [T.owned, List.count_nil] at h4
      rw [own_append, own_one, List.count_append]
      omega
    have hmem : ∀ b, b ∈ own (F.set k (g.set q (.junk v)) ++ [g.at_ q]) ↔ b ∈ own F := fun b => by rw [mem_of_count, mem_of_count, hcount]
    obtain ⟨k1, k2, k3⟩ := keep_any (k := k) hw hok
    have hkl : k < F.length := by omega
    have S : Stp w w I I F (F.set k (g.set q (.junk v)) ++ [g.at_ q]) [(k, q)] c.F0.length := {
      holds := fun g' hg' => by
        rcases List.mem_append.1 hg' with h' | h'
        · rcases List.mem_or_eq_of_mem_set h' with h' | h'
          · exact hi.holds _ h'
          · subst h'; exact hset
        · simp only [List.mem_singleton] at h'; subst h'; exact hH.at_ q
      nodup := nodup_of_count fun b => by rw [hcount]; exact count_le_one hi.nodup b
      apart := fun b hb => hi.apart b ((hmem b).1 hb)
      mine := fun b hb => .inl ((hmem b).1 hb)
      lt := fun b hb => hi.lt b ((hmem b).1 hb)
      ilt := hi.ilt
      heap := fun _ _ _ => rfl
      size := Nat.le_refl _
      os := rfl
      tape := rfl
      output := rfl
      imono := fun _ h => h
      inew := fun _ h => .inl h
      keep := fun j f hf => by
        have hjl : j < F.length := (List.getElem?_eq_some_iff.1 hf).1
        by_cases e : k = j
        · subst e
          rw [hg] at hf; cases hf
          refine ⟨g.set q (.junk v), ?_, fun _ => T.cells_set_same hok hc, k1, k2, k3⟩
          rw [List.getElem?_append_left (by simp; omega), List.getElem?_set_self hkl]
        · refine ⟨f, ?_, fun _ => rfl, fun _ _ => rfl, fun _ _ => rfl, fun _ _ h _ => h⟩
          rw [List.getElem?_append_left (by simp; omega), List.getElem?_set_ne e]; exact hf }
    refine ⟨F.set k (g.set q (.junk v)) ++ [g.at_ q], ?_, he.step hi S, hp.step hi S, fun g' hg' => ?_, fun j f hj hne => ?_, fun av m vs hd H => Rl.step hi S hd H⟩
    · have h2 := hi.step S
      rw [List.map_append, List.map_set, hi.erase, T.erase_set, ← ht, List.map_cons, List.map_nil, T.erase_at, ← ht, show (T.junk v : G).erase = .junk () from rfl] at h2
      cases hb : Nat.ble c.F0.length k with
      | false => simpa [St.detach, hb] using h2
      | true =>
        have := h2.unkill fun j p s hj => by
          have := Nat.le_of_ble_eq_true hb
          have : (j == k) = false := by simp; omega
          simp [dead, this]
        simpa [St.detach, hb] using this
    · rw [hg] at hg'; cases hg'
      refine ⟨?_, v, hv, h1, ?_⟩
      · rw [← hFl, List.getElem?_append_right (by simp), List.length_set, Nat.sub_self]
        rfl
      · rw [List.getElem?_append_left (by simpa using hkl), List.getElem?_set_self hkl]
    · rw [List.getElem?_append_left (by simpa using (List.getElem?_eq_some_iff.1 hj).1), List.getElem?_set_ne (Ne.symm hne)]; exact hj
  obtain ⟨h1, h2, I, F, hi, he, hp⟩ := h
  obtain ⟨F', g1, g2, g3, _⟩ := key I F hi he hp
  exact ⟨⟨h1, h2, I, F', g1, g2, g3⟩, key⟩

end Go.Vc

/- Appends on states: their conditions, and that they hold. -/
namespace Go.Vc
set_option linter.all false
open T (hdr blk)

/-- Where the elements come from: a copy where nothing is owned in them; else a root of the call's own gives them up. -/
structure Sc where
  u : D
  m : Nat
  X : List D
  κ : List (Nat × Path)

def AV.src (nb z : Nat) (X : List D) : AV → Option Sc
  | .nils _ => some ⟨.nil, 0, X, []⟩
  | .imm z' s _ => if z' = z then some ⟨s, s.len, X, []⟩ else none
  | .sub k q lo n _ =>
    match (X.getD k .nil).at_ q with
    | .sl _ () z' s =>
      if z' = z then
        bif (s.mid lo n).free then some ⟨s.mid lo n, n, X, []⟩
        else match q with
          | [] => bif Nat.ble nb k then some ⟨s.mid lo n, n, X.set k (.junk ()), [(k, [])]⟩ else none
          | _ => none
      else none
    | _ => none
  | _ => none

theorem src_ok {h : Array Obj} {I : Nat → Prop} {nb z : Nat} {F : List G} {av : AV} {v : Value} {r : Sc} (hF : ∀ g ∈ F, T.Holds h I g) (hv : Rl h I F av true [v]) (hr : av.src nb z (F.map T.erase) = some r) :
    ∃ F1 x o A c, F1.map T.erase = r.X ∧ x.erase = r.u ∧ v = .slice A r.m c ∧ T.Holds h I (.sl o v z x) ∧ (∀ g ∈ F1, T.Holds h I g) ∧
      (∀ b, x.owned.count b + (own F1).count b ≤ (own F).count b) ∧ KeepR nb F F1 r.κ := by
  cases av with
  | nils z0 =>
    simp only [AV.src, Option.some.injEq] at hr
    subst hr
    cases hv
    exact ⟨F, .nil, true, none, 0, rfl, rfl, rfl, ⟨trivial, trivial, (fun _ => rfl), rfl, rfl, rfl⟩, hF, fun b => by simp [T.owned], KeepR.refl _ _⟩
  | imm z' s ex =>
    simp only [AV.src] at hr
    split at hr
    · rename_i hz
      subst hz
      simp only [Option.some.injEq] at hr
      subst hr
      obtain ⟨v', h1, s', h2, h3, h4⟩ := hv
      cases h1
      subst h2
      obtain ⟨A, n, c, rfl, hn⟩ : ∃ A n c, v = .slice A n c ∧ n = s'.len := by
        have h6 := h3.2.2.2
        split at h6
        · exact ⟨_, _, _, rfl, by omega⟩
        · exact ⟨_, _, _, rfl, by omega⟩
        · exact ⟨_, _, _, rfl, h6.2.1⟩
        · exact h6.elim
      exact ⟨F, s', false, A, c, rfl, rfl, by rw [hn, T.erase_len], h3, hF, fun b => by rw [T.owned_free (h3.2.2.1 rfl)]; simp, KeepR.refl _ _⟩
    · cases hr
  | sub k q lo n ex =>
    simp only [AV.src] at hr
    obtain ⟨own0, a0, z0, len0, v', hd, h1, hs⟩ := hv
    cases h1
    unfold hdrF at hd
    cases hg : F[k]? with
    | none => rw [hg] at hd; simp at hd
    | some g =>
      rw [hg] at hd
      simp only [Option.bind_some] at hd
      have hgm := List.mem_of_getElem? hg
      have hH := hF g hgm
      have hgd : (F.map T.erase).getD k .nil = g.erase := by rw [List.getD_eq_getElem?_getD, List.getElem?_map, hg]; rfl
      rw [hgd, ← T.erase_at] at hr
      cases hgq : g.at_ q with
      | sl o' a' z' s' =>
        rw [hgq] at hr hd
        simp only [hdr, Option.some.injEq, Prod.mk.injEq] at hd
        obtain ⟨rfl, rfl, rfl, rfl⟩ := hd
        simp only [T.erase] at hr
        split at hr
        · rename_i hz
          subst hz
          have hHq := hH.at_ q
          rw [hgq] at hHq
          obtain ⟨hst, hln⟩ := T.Holds.stretch hHq hs
          obtain ⟨A, c, hvv, _⟩ := id hs
          rw [← T.erase_mid, T.erase_free] at hr
          cases hfr : (s'.mid lo n).free with
          | true =>
            rw [hfr] at hr
            simp only [cond_true, Option.some.injEq] at hr
            subst hr
            exact ⟨F, s'.mid lo n, _, A, c, rfl, rfl, hvv, hst, hF, fun b => by rw [T.owned_free hfr]; simp, KeepR.refl _ _⟩
          | false =>
            rw [hfr] at hr
            simp only [cond_false] at hr
            cases q with
            | cons st q => cases hr
            | nil =>
              simp only at hr
              cases hb : Nat.ble nb k with
              | false => rw [hb] at hr; cases hr
              | true =>
                rw [hb] at hr
                simp only [cond_true, Option.some.injEq] at hr
                subst hr
                simp only [T.at_] at hgq
                subst hgq
                have hone : a'.oneCell' = true := hH.one a' (by simp [T.cells])
                refine ⟨F.set k (.junk a'), s'.mid lo n, _, A, c, by rw [List.map_set]; rfl, rfl, hvv, hst, fun g' hg' => ?_, fun b => ?_, ?_⟩
                · rcases List.mem_or_eq_of_mem_set hg' with h1 | h1
                  · exact hF _ h1
                  · subst h1; exact hone
                · have h5 := own_set hg (.junk a') b
                  have h6 := (T.owned_mid s' lo n).count_le b
                  simp only [T.owned, List.count_nil] at h5
                  cases o' with
                  | true => simp only [T.owned, List.count_append] at h5; omega
                  | false =>
                    have h7 := T.owned_free (T.free_mid (hH.2.2.1 rfl) lo n)
                    rw [h7] at h6 ⊢
                    simp only [T.owned, List.count_nil] at h5 ⊢; omega
                · refine ⟨fun e he => by simp only [List.mem_singleton] at he; subst he; rfl, fun j g' hg' => ?_⟩
                  by_cases hj : k = j
                  · subst hj
                    have hlt : k < F.length := (List.getElem?_eq_some_iff.1 hg').1
                    exact ⟨.junk a', by simp [hlt], .inr ⟨⟨a', rfl⟩, by simp [dead, mpre], Nat.le_of_ble_eq_true hb⟩⟩
                  · exact ⟨g', by rw [List.getElem?_set_ne hj]; exact hg', .inl rfl⟩
        · cases hr
      | _ => rw [hgq] at hr; simp [T.erase] at hr
  | _ => simp [AV.src] at hr

theorem src_bases {nb z : Nat} {X : List D} {av : AV} {r : Sc} (hr : av.src nb z X = some r) {k : Nat} {q : Path} {s : Bool} (hk : k < nb) : dead r.κ k q s = false := by
  have one : ∀ {nb j k : Nat} {q : Path} {s : Bool}, k < nb → Nat.ble nb j = true → dead [(j, [])] k q s = false := by
    intro nb j k q s h1 h2
    have := Nat.le_of_ble_eq_true h2
    have : (k == j) = false := by simp; omega
    simp [dead, this]
  cases av with
  | nils _ => simp only [AV.src, Option.some.injEq] at hr; subst hr; rfl
  | imm _ _ _ => simp only [AV.src] at hr; split at hr <;> simp at hr; subst hr; rfl
  | sub k' q' lo n ex =>
    simp only [AV.src] at hr
    split at hr
    · split at hr
      · rename_i s' _ _
        cases hfr : (s'.mid lo n).free with
        | true => rw [hfr] at hr; simp only [cond_true, Option.some.injEq] at hr; subst hr; rfl
        | false =>
          rw [hfr] at hr; simp only [cond_false] at hr
          cases q' with
          | cons _ _ => cases hr
          | nil =>
            simp only at hr
            cases hb : Nat.ble nb k' with
            | false => rw [hb] at hr; cases hr
            | true => rw [hb] at hr; simp only [cond_true, Option.some.injEq] at hr; subst hr; exact one hk hb
      · cases hr
    · cases hr
  | _ => simp [AV.src] at hr

def fits (n m by_ : Nat) : Prop := (n + m) * by_ ≤ 140737488355328 ∧ n + m ≤ 2 ^ 63 - 1

/-- An append to a root of the call's own. -/
def appRoot (nb z by_ : Nat) (st : St) (j lo n : Nat) (x : AV) (K : AV → St → Prop) : Prop :=
  match x.src nb z st.X with
  | none => False
  | some r => match r.X[j]? with
    | some (.sl true () z' s) => z' = z ∧ Nat.ble nb j = true ∧ fits n r.m by_ ∧
        K (.sub j [] 0 (n + r.m) false) { st with env := st.env.kill (r.κ ++ [(j, [])]), X := r.X.set j (.sl true () z ((s.mid lo n).app r.u)), pl := plKill (r.κ ++ [(j, [])]) st.pl }
    | _ => False

theorem Rel.appRoot {c : Cx} {τ : Tab} (hτ : Tab.Ok c.P τ) {st : St} {a : Act} {w : World} {I : Nat → Prop} {F : List G} (hd : a.defers = []) (hs : a.tmps.size = c.nt) (hi : Inv c st.X st.κ w I F)
    (he : EnvOk st.env a w I F) (hp : PlOk st.pl w I F) {t ty : TypeId} {e z by_ : Nat} {zv : Value} (ht : (τ t).sl = some (e, z, by_, zv)) {j lo n : Nat} {ex : Bool} {x : AV} {v vx : Value}
    (hv : Rl w.heap I F (.sub j [] lo n ex) true [v]) (hx : Rl w.heap I F x true [vx]) {K : AV → St → Prop} (hK : Vc.appRoot c.F0.length z by_ st j lo n x K) :
    ∃ av st' v' w', K av st' ∧ (Builtin.append_ #[t, t] ty #[v, vx]).run c.P w = .ok v' w' ∧ RelR c st' av v' a w' := by
  unfold Vc.appRoot at hK
  cases hr : x.src c.F0.length z st.X with
  | none => rw [hr] at hK; exact hK.elim
  | some r =>
    rw [hr] at hK
    simp only at hK
    rw [← hi.erase] at hr
    obtain ⟨F1, x', o2, A2, c2, s1, s2, s3, s4, s5, s6, s7⟩ := src_ok hi.holds hx hr
    split at hK
    · rename_i z' s0 hj
      obtain ⟨rfl, hjb, ⟨hf1, hf2⟩, hK⟩ := hK
      have hjb := Nat.le_of_ble_eq_true hjb
      obtain ⟨u1, inf, u2, u3, u4, u5, u6⟩ := (hτ t).sl _ _ _ _ ht
      rw [← s1, List.getElem?_map] at hj
      cases hg : F1[j]? with
      | none => rw [hg] at hj; cases hj
      | some g =>
        rw [hg] at hj
        simp only [Option.map_some, Option.some.injEq] at hj
        cases g with
        | sl o a0 z0 s =>
          simp only [T.erase, T.sl.injEq] at hj
          obtain ⟨rfl, _, rfl, rfl⟩ := hj
          -- the base slice as it was
          obtain ⟨own0, a1, z1, len1, v', hdd, h1, hsub⟩ := hv
          cases h1
          have hsame : F[j]? = some (.sl true a0 z0 s) := by
            unfold hdrF at hdd
            cases hgf : F[j]? with
            | none => rw [hgf] at hdd; simp at hdd
            | some f =>
              obtain ⟨f1, h2, h3⟩ := s7.2 j f hgf
              rw [hg] at h2
              cases h2
              rcases h3 with h3 | ⟨⟨a', h3⟩, _⟩
              · rw [← h3]
              · cases h3
          simp only [hdrF, hsame, Option.bind_some, T.at_, hdr, Option.some.injEq, Prod.mk.injEq] at hdd
          obtain ⟨rfl, rfl, rfl, rfl⟩ := hdd
          have hHj := hi.holds _ (List.mem_of_getElem? hsame)
          obtain ⟨hst, hln⟩ := T.Holds.stretch hHj hsub
          obtain ⟨A, cap, rfl, q1, q2, q3, q4, q5⟩ := id hsub
          subst s3
          rw [← u4] at hst s4
          have hmidsub := T.owned_mid s lo n
          have hjmem : ∀ b ∈ s.owned, b ∈ own F1 := fun b hb => own_mem hg (by simp [T.owned, hb])
          have hlow : ∀ b ∈ (s.mid lo n).owned ++ x'.owned, b < w.heap.size := fun b hb => by
            rcases List.mem_append.1 hb with hb | hb
            · have h6 := s6 b
              have h7 := hjmem b (hmidsub.subset hb)
              exact hi.lt b (by rw [mem_of_count] at *; omega)
            · have h6 := s6 b
              exact hi.lt b (by rw [mem_of_count] at *; omega)
          have hAown : ∀ a, A = some a → 0 < cap → blk a0 = [a.block] := fun a ha h0 => by
            subst ha
            split at q5
            · cases q5.1
            · rename_i x0 n0 cap0
              obtain ⟨y, hy, _, hyb, hle, _⟩ := q5
              cases hy
              obtain ⟨cap0, rfl⟩ : ∃ k, cap0 = k + 1 := ⟨cap0 - 1, by omega⟩
              simp [blk, hyb]
            · exact q5.elim
          obtain ⟨v', w', r1, r2, r3, r4, r5, r6, ⟨A', c', r7⟩, r8, r9, r10⟩ := append_node (P := c.P) w (ty := ty) u1 u2 u3 hst s4 (by rw [u6, u4]) hi.ilt
            (fun hle0 hm0 a ha => by
              have h2 := hAown a ha (by omega)
              have h3 : a.block ∈ own F := own_mem hsame (by simp [T.owned, h2])
              have h4 := count_le_one hi.nodup a.block
              have h5 := own_set hsame (.junk a0) a.block
              have h6 := s6 a.block
              have h8 := own_set hg (.junk a0) a.block
              have h9 := hmidsub.count_le a.block
              simp only [T.owned, List.count_nil, List.count_append, h2, List.count_singleton_self] at h5 h8
              refine ⟨hi.apart _ h3, fun hm => ?_, fun hm => ?_⟩
              · rw [mem_of_count] at hm; omega
              · rw [mem_of_count] at hm; omega)
            hlow (by rw [u5]; exact hf1) hf2
          have hnode := r10 fun _ => rfl
          rw [u4] at hnode
          subst r7
          have hcnt : (T.sl true (.slice A' (n + r.m) c') z0 ((s.mid lo n).app x') : G).owned = blk (.slice A' (n + r.m) c') ++ ((s.mid lo n).owned ++ x'.owned) := by
            simp only [T.owned]; rw [T.owned_app hst.2.1]
          have S := Stp.setRoot (κ := st.κ) hi s7 s5 (ext := x'.owned) s6 hg hjb hnode
            (fun b hb => by
              rw [hcnt]
              have h9 := hmidsub.count_le b
              simp only [T.owned, List.count_append]
              by_cases hle : n + r.m ≤ cap
              · obtain ⟨h10, _⟩ := r9 hle
                cases h10
                cases A with
                | none => simp only [blk, List.count_nil]; omega
                | some y =>
                  have h13 := T.blk_some y (n + r.m) cap b
                  rcases Nat.eq_zero_or_pos cap with h0 | h0
                  · subst h0; simp only [blk, List.count_nil]; omega
                  · have h12 := hAown y rfl h0; rw [h12]; omega
              · obtain ⟨cc, h10, _⟩ := r8 (by omega)
                cases h10
                have : ([w.heap.size] : List Nat).count b = 0 := List.count_eq_zero.2 (by simp; omega)
                have h13 := T.blk_some ⟨w.heap.size, 0, none⟩ (n + r.m) c' b
                simp only at h13; omega)
            (fun b hb => by
              rw [hcnt]
              have h2 : ((s.mid lo n).owned ++ x'.owned).count b = 0 := List.count_eq_zero.2 fun hm => by have := hlow b hm; omega
              simp only [List.count_append] at h2 ⊢
              have : (blk (.slice A' (n + r.m) c')).count b ≤ 1 := by
                cases A' with
                | none => simp [blk]
                | some y => exact Nat.le_trans (T.blk_some y _ _ b) List.count_le_length
              omega)
            (fun b hb => by
              rw [hcnt] at hb
              rcases List.mem_append.1 hb with hb | hb
              · by_cases hle : n + r.m ≤ cap
                · obtain ⟨h10, h11⟩ := r9 hle
                  cases h10
                  cases A with
                  | none => simp [blk] at hb
                  | some y =>
                    obtain ⟨hb, h0⟩ := T.mem_blk hb
                    have h2 := hAown y rfl h0
                    subst hb
                    rw [h11]
                    exact hi.lt _ (own_mem hsame (by simp [T.owned, h2]))
                · obtain ⟨cc, h10, h11⟩ := r8 (by omega)
                  cases h10
                  have hb := (T.mem_blk hb).1
                  simp only at hb
                  omega
              · have := hlow b hb; omega)
            (fun b hb hn => r6 b hb fun a ha hle0 hm0 e' => hn (by simp [T.owned, hAown a ha (by omega), e']))
            r5 r2 r3 r4
          have hsubr : SubRel (.slice A' (n + r.m) c') z0 ((s.mid lo n).app x').len 0 (n + r.m) false (.slice A' (n + r.m) c') := by
            have hl := Holds_sl_nil hnode
            have hl2 : ((s.mid lo n).app x').len = n + r.m := by
              have h11 := (slice_cells rfl s4).1
              rw [T.len_app, hln, ← h11]
            rw [hl2] at hl ⊢
            exact hl
          have hjl : j < F1.length := (List.getElem?_eq_some_iff.1 hg).1
          refine ⟨_, _, _, w', hK, r1, ?_⟩
          have hfin := Rel.of_step hd hs hi he hp S (av := .sub j [] 0 (n + r.m) false) (v := .slice A' (n + r.m) c')
            ⟨true, _, z0, _, _, by simp [hdrF, hjl, T.at_, hdr], rfl, hsubr⟩
          obtain ⟨f1, f2, I', F', f3, f4, f5, f6⟩ := hfin
          refine ⟨f1, f2, I', F', ?_, f4, f5, f6⟩
          have h12 : (F1.set j (.sl true (.slice A' (n + r.m) c') z0 ((s.mid lo n).app x'))).map T.erase = r.X.set j (.sl true () z0 (((s.erase).mid lo n).app r.u)) := by
            rw [List.map_set, s1]
            simp only [T.erase, T.erase_app, T.erase_mid, s2]
          simp only [St.step, h12] at f3
          have h13 := f3.unkill (κ' := r.κ ++ [(j, [])]) fun k' q' s' hk' => by
            rw [dead_append]
            have h14 : dead [(j, [])] k' q' s' = false := by
              have : (k' == j) = false := by simp; omega
              simp [dead, this]
            rw [h14, Bool.or_false]
            exact src_bases hr hk'
          exact h13
        | _ => simp [T.erase] at hj
    · exact hK.elim

end Go.Vc

/- Appends that make a new root. -/
namespace Go.Vc
set_option linter.all false
open T (hdr blk)

theorem Stp.grow {c : Cx} {X : List D} {κ : List (Nat × Path)} {w : World} {I : Nat → Prop} {F : List G} (hi : Inv c X κ w I F) : Stp w w I I F (F ++ [.nil]) [] c.F0.length where
  holds := fun g hg => by
    rcases List.mem_append.1 hg with h | h
    · exact hi.holds g h
    · simp only [List.mem_singleton] at h; subst h; trivial
  nodup := by simpa [own, T.owned] using hi.nodup
  apart := fun b hb => hi.apart b (by simpa [own, T.owned] using hb)
  mine := fun b hb => .inl (by simpa [own, T.owned] using hb)
  lt := fun b hb => hi.lt b (by simpa [own, T.owned] using hb)
  ilt := hi.ilt
  heap := fun _ _ _ => rfl
  size := Nat.le_refl _
  os := rfl
  tape := rfl
  output := rfl
  imono := fun _ h => h
  inew := fun _ h => .inl h
  keep := fun k g hg => ⟨g, by rw [List.getElem?_append_left (List.getElem?_eq_some_iff.1 hg).1]; exact hg, fun _ => rfl, fun _ _ => rfl, fun _ _ => rfl, fun _ _ h _ => h⟩

theorem KeepR.grow {nb : Nat} {F F1 : List G} {κ : List (Nat × Path)} (hl : F1.length = F.length) (h : KeepR nb F F1 κ) : KeepR nb (F ++ [.nil]) (F1 ++ [.nil]) κ := by
  refine ⟨h.1, fun k g hg => ?_⟩
  rcases Nat.lt_or_ge k F.length with hk | hk
  · rw [List.getElem?_append_left hk] at hg
    obtain ⟨g', h1, h2⟩ := h.2 k g hg
    exact ⟨g', by rw [List.getElem?_append_left (by omega)]; exact h1, h2⟩
  · rw [List.getElem?_append_right hk] at hg
    refine ⟨g, by rw [List.getElem?_append_right (by omega), hl]; exact hg, .inl rfl⟩

theorem own_snoc_nil (F : List G) : own (F ++ [.nil]) = own F := by simp [own, T.owned]

theorem Stp.ungrow {w w' : World} {I I' : Nat → Prop} {F F2 : List G} {κ : List (Nat × Path)} {nb : Nat} (s : Stp w w' I I' (F ++ [.nil]) F2 (κ ++ [(F.length, [])]) nb) : Stp w w' I I' F F2 κ nb :=
  { s with
    mine := fun b hb => by have := s.mine b hb; rwa [own_snoc_nil] at this
    heap := fun b hb hn => s.heap b hb (by rw [own_snoc_nil]; exact hn)
    inew := fun b hb => by have := s.inew b hb; rwa [own_snoc_nil] at this
    keep := fun k g hg => by
      have hk := (List.getElem?_eq_some_iff.1 hg).1
      have hd : ∀ q sb, dead (κ ++ [(F.length, [])]) k q sb = dead κ k q sb := fun q sb => by
        have : (k == F.length) = false := by simp; omega
        rw [dead_append, show dead [(F.length, [])] k q sb = false by simp [dead, this], Bool.or_false]
      have := s.keep k g (by rw [List.getElem?_append_left hk]; exact hg)
      simpa only [hd] using this }

theorem AV.src_len {nb z : Nat} {X : List D} {av : AV} {r : Sc} (h : av.src nb z X = some r) : r.X.length = X.length := by
  cases av with
  | nils _ => simp only [AV.src, Option.some.injEq] at h; subst h; rfl
  | imm _ _ _ => simp only [AV.src] at h; split at h <;> simp at h; subst h; rfl
  | sub k' q' lo n ex =>
    simp only [AV.src] at h
    split at h
    · split at h
      · rename_i s' _ _
        cases hfr : (s'.mid lo n).free with
        | true => rw [hfr] at h; simp only [cond_true, Option.some.injEq] at h; subst h; rfl
        | false =>
          rw [hfr] at h; simp only [cond_false] at h
          cases q' with
          | cons _ _ => cases h
          | nil =>
            simp only at h
            cases hb : Nat.ble nb k' with
            | false => rw [hb] at h; cases h
            | true => rw [hb] at h; simp only [cond_true, Option.some.injEq] at h; subst h; simp
      · cases h
    · cases h
  | _ => simp [AV.src] at h

theorem AV.kill_nil' (e : Env) : e.kill [] = e := by
  unfold Env.kill
  induction e with
  | nil => rfl
  | cons x e ih => simp only [List.map_cons, ih]; congr 1; cases x; simp [AV.kill, AV.dies_nil]

/-- What is known of a list that is appended to, where it is no root of the call's own: it has no room. -/
def AV.tight : AV → Nat → Bool
  | .nils _, _ => true
  | .imm _ _ ex, m => ex && Nat.blt 0 m
  | .sub _ _ _ _ ex, m => ex && Nat.blt 0 m
  | _, _ => false

/-- An append to a list that has no room: a new root. -/
def appFresh (nb z by_ : Nat) (st : St) (b x : AV) (K : AV → St → Prop) : Prop :=
  match b.src nb z st.X, x.src nb z st.X with
  | some rb, some r => rb.u.free = true ∧ b.tight r.m = true ∧ fits rb.m r.m by_ ∧
        K (.sub r.X.length [] 0 (rb.m + r.m) false) { st with env := st.env.kill r.κ, X := r.X ++ [.sl true () z (rb.u.app r.u)], pl := plKill r.κ st.pl }
  | _, _ => False

theorem Rel.appFresh {c : Cx} {τ : Tab} (hτ : Tab.Ok c.P τ) {st : St} {a : Act} {w : World} {I : Nat → Prop} {F : List G} (hd : a.defers = []) (hs : a.tmps.size = c.nt) (hi : Inv c st.X st.κ w I F)
    (he : EnvOk st.env a w I F) (hp : PlOk st.pl w I F) {t ty : TypeId} {e z by_ : Nat} {zv : Value} (ht : (τ t).sl = some (e, z, by_, zv)) {b x : AV} {v vx : Value}
    (hv : Rl w.heap I F b true [v]) (hx : Rl w.heap I F x true [vx]) {K : AV → St → Prop} (hK : Vc.appFresh c.F0.length z by_ st b x K) :
    ∃ av st' v' w', K av st' ∧ (Builtin.append_ #[t, t] ty #[v, vx]).run c.P w = .ok v' w' ∧ RelR c st' av v' a w' := by
  unfold Vc.appFresh at hK
  split at hK
  case h_2 => exact hK.elim
  rename_i rb r hrb hr
  obtain ⟨hfree, htight, ⟨hf1, hf2⟩, hK⟩ := hK
  rw [← hi.erase] at hr hrb
  obtain ⟨F1, x', o2, A2, c2, s1, s2, s3, s4, s5, s6, s7⟩ := src_ok hi.holds hx hr
  have hr' : x.src c.F0.length z st.X = some r := by rw [← hi.erase]; exact hr
  -- the list that is appended to
  obtain ⟨own1, A, cap, s, q1, q2, q3, q4, q5⟩ : ∃ own1 A cap, ∃ s : G, s.erase = rb.u ∧ v = .slice A rb.m cap ∧ T.Holds w.heap I (.sl own1 v z s) ∧ s.free = true ∧ (rb.m + r.m ≤ cap → own1 = true ∧ A = none) := by
    have key : ∀ o A cap (s : G), s.erase = rb.u → v = .slice A rb.m cap → T.Holds w.heap I (.sl o v z s) → (cap = rb.m ∧ 0 < r.m) →
        ∃ own1 A cap, ∃ s : G, s.erase = rb.u ∧ v = .slice A rb.m cap ∧ T.Holds w.heap I (.sl own1 v z s) ∧ s.free = true ∧ (rb.m + r.m ≤ cap → own1 = true ∧ A = none) :=
      fun o A cap s e1 e2 e3 e4 => ⟨o, A, cap, s, e1, e2, e3, by rw [← T.erase_free, e1]; exact hfree, fun h => by omega⟩
    obtain ⟨_, sb, ob, Ab, cb, _, t2, t3, t4, _⟩ := src_ok hi.holds hv hrb
    cases b with
    | nils z0 =>
      simp only [AV.src, Option.some.injEq] at hrb
      subst hrb
      cases hv
      exact ⟨true, none, 0, .nil, rfl, rfl, ⟨trivial, trivial, (fun h => by cases h), rfl, rfl, rfl⟩, rfl, fun _ => ⟨rfl, rfl⟩⟩
    | imm z' s' ex =>
      simp only [AV.tight, Bool.and_eq_true] at htight
      obtain ⟨v', h1, s'', h2, h3, h4⟩ := hv
      cases h1
      exact key ob Ab cb sb t2 t3 t4 ⟨h4 htight.1 _ _ _ t3, Nat.le_of_ble_eq_true htight.2⟩
    | sub k q lo n ex =>
      simp only [AV.tight, Bool.and_eq_true] at htight
      obtain ⟨own0, a0, z0, len0, v', hd', h1, A', c', h2, h3, h4, h4', h5, _⟩ := hv
      cases h1
      rw [t3] at h2
      injection h2 with h6 h7 h8
      exact key ob Ab cb sb t2 t3 t4 ⟨by rw [h8, h5 htight.1, h7], Nat.le_of_ble_eq_true htight.2⟩
    | _ => simp [AV.tight] at htight
  obtain ⟨u1, inf, u2, u3, u4, u5, u6⟩ := (hτ t).sl _ _ _ _ ht
  subst q2
  subst s3
  rw [← u4] at q3 s4
  have hF1 : F1.length = F.length := by have := congrArg List.length s1; have h2 := congrArg List.length hi.erase; simp at this h2; rw [this]; simpa using AV.src_len hr
  have hso : s.owned = [] := T.owned_free q4
  have hlow : ∀ b ∈ s.owned ++ x'.owned, b < w.heap.size := fun b hb => by
    rw [hso, List.nil_append] at hb
    have h6 := s6 b
    exact hi.lt b (by rw [mem_of_count] at *; omega)
  obtain ⟨v', w', r1, r2, r3, r4, r5, r6, ⟨A', c', r7⟩, r8, r9, r10⟩ := append_node (P := c.P) w (ty := ty) u1 u2 u3 q3 s4 (by rw [u6, u4]) hi.ilt
    (fun h1 _ a ha => by have := (q5 h1).2; rw [ha] at this; cases this) hlow (by rw [u5]; exact hf1) hf2
  have hnode := r10 fun h => (q5 h).1
  rw [u4] at hnode
  subst r7
  have hcnt : (T.sl true (.slice A' (rb.m + r.m) c') z (s.app x') : G).owned = blk (.slice A' (rb.m + r.m) c') ++ x'.owned := by
    simp only [T.owned]; rw [T.owned_app q3.2.1, hso]; rfl
  have G0 := Stp.grow hi
  have hi' := hi.step G0
  have he' := he.step hi G0
  have hp' := hp.step hi G0
  have hgn : (F1 ++ [T.nil])[F1.length]? = some (T.nil : G) := by simp
  have hnbF : c.F0.length ≤ F.length := by
    rcases Nat.lt_or_ge F.length c.F0.length with h | h
    · obtain ⟨g1, hg1, _⟩ := hi.base F.length _ (List.getElem?_eq_getElem h)
      simp at hg1
    · exact h
  have S := Stp.setRoot (κ := st.κ) hi' (KeepR.grow hF1 s7) (fun g hg => by
      rcases List.mem_append.1 hg with h | h
      · exact s5 g h
      · simp only [List.mem_singleton] at h; subst h; trivial) (ext := x'.owned) (fun b => by rw [own_snoc_nil, own_snoc_nil]; exact s6 b) hgn (by rw [hF1]; exact hnbF) hnode
    (fun b hb => by
      rw [hcnt]
      have hz : (blk (.slice A' (rb.m + r.m) c')).count b = 0 := by
        by_cases hle : rb.m + r.m ≤ cap
        · obtain ⟨h10, _⟩ := r9 hle
          cases h10
          rw [(q5 hle).2]; rfl
        · obtain ⟨cc, h10, _⟩ := r8 (by omega)
          cases h10
          have h13 := T.blk_some ⟨w.heap.size, 0, none⟩ (rb.m + r.m) c' b
          have : ([w.heap.size] : List Nat).count b = 0 := List.count_eq_zero.2 (by simp; omega)
          simp only at h13; omega
      simp only [List.count_append, T.owned, List.count_nil]; omega)
    (fun b hb => by
      rw [hcnt]
      have h2 : x'.owned.count b = 0 := List.count_eq_zero.2 fun hm => by have := hlow b (by simp [hm]); omega
      have : (blk (.slice A' (rb.m + r.m) c')).count b ≤ 1 := by
        cases A' with
        | none => simp [blk]
        | some y => exact Nat.le_trans (T.blk_some y _ _ b) List.count_le_length
      simp only [List.count_append]; omega)
    (fun b hb => by
      rw [hcnt] at hb
      rcases List.mem_append.1 hb with hb | hb
      · by_cases hle : rb.m + r.m ≤ cap
        · obtain ⟨h10, h11⟩ := r9 hle
          cases h10
          rw [(q5 hle).2] at hb
          simp [blk] at hb
        · obtain ⟨cc, h10, h11⟩ := r8 (by omega)
          cases h10
          have hb := (T.mem_blk hb).1
          simp only at hb
          omega
      · have := hlow b (by simp [hb]); omega)
    (fun b hb _ => r6 b hb fun a ha hle _ e' => by have := (q5 hle).2; rw [ha] at this; cases this)
    r5 r2 r3 r4
  have hsubr : SubRel (.slice A' (rb.m + r.m) c') z (s.app x').len 0 (rb.m + r.m) false (.slice A' (rb.m + r.m) c') := by
    have hl := Holds_sl_nil hnode
    have hl1 := (slice_cells rfl q3).1
    have hl2 := (slice_cells rfl s4).1
    rw [T.len_app, ← hl1, ← hl2] at hl ⊢
    exact hl
  refine ⟨_, _, _, w', hK, r1, ?_⟩
  have hXl : r.X.length = F1.length := by rw [← s1]; simp
  have hset : (F1 ++ [T.nil]).set F1.length (T.sl true (.slice A' (rb.m + r.m) c') z (s.app x')) = F1 ++ [T.sl true (.slice A' (rb.m + r.m) c') z (s.app x')] := by simp
  rw [hset, hF1] at S
  have S := S.ungrow
  rw [hXl]
  have h12 : (F1 ++ [T.sl true (.slice A' (rb.m + r.m) c') z (s.app x')]).map T.erase = r.X ++ [.sl true () z (rb.u.app r.u)] := by
    rw [List.map_append, s1]
    simp only [List.map_cons, List.map_nil, T.erase, T.erase_app, s2, q1]
  have hi2 := hi.step S
  rw [h12] at hi2
  exact ⟨hd, hs, I, _, hi2.unkill fun k' q' s' hk' => src_bases hr hk', he.step hi S, hp.step hi S, true, .slice A' (rb.m + r.m) c', z, _, _, by simp [hdrF, T.at_, hdr], rfl, hsubr⟩

end Go.Vc

/- The operations that change memory, but for calls: their conditions, and that they hold what they promise. -/
namespace Go.Vc
set_option linter.all false
open T (hdr blk)

def boxVc (nb : Nat) (st : St) (av : AV) (K : AV → St → Prop) : Prop :=
  let r := av.lay nb st.X
  K (.ptr r.X.length [.d]) ((st.moved r).push r (.d :: ·) (.box true () r.d))

def rowVc (nb : Nat) (st : St) (z n : Nat) (av : AV) (K : AV → St → Prop) : Prop :=
  let r := av.lay nb st.X
  r.d.uni z ∧ r.d.len = n ∧ K (.sub r.X.length [] 0 n true) ((st.moved r).push r toI (.sl true () z r.d))

def storeVc (nb : Nat) (st : St) (av : AV) (k : Nat) (q : Path) (K : AV → St → Prop) : Prop :=
  let r := av.lay nb st.X
  (r.tree k).okp q = true ∧ r.d.width = ((r.tree k).at_ q).width ∧ K .bad (st.stored nb r k q)

/-- An append of nothing to a list that has no room. -/
def appSame (nb z by_ : Nat) (st : St) (b x : AV) (K : AV → St → Prop) : Prop :=
  match b.src nb z st.X, x.src nb z st.X with
  | some rb, some r => r.κ = [] ∧ r.m = 0 ∧ fits rb.m 0 by_ ∧ K b st
  | _, _ => False

/-- An append: to a root of the call's own, or to a list that has no room. -/
def appVc (nb z by_ : Nat) (st : St) (b x : AV) (K : AV → St → Prop) : Prop :=
  match b with
  | .sub j [] lo n false => appRoot nb z by_ st j lo n x K
  | .sub j [] lo 0 true => bif Nat.ble nb j then appRoot nb z by_ st j lo 0 x K else match x.src nb z st.X with
    | some r => bif Nat.blt 0 r.m then appFresh nb z by_ st (.sub j [] lo 0 true) x K else appSame nb z by_ st (.sub j [] lo 0 true) x K
    | none => False
  | .sub j q lo n true => match x.src nb z st.X with
    | some r => bif Nat.blt 0 r.m then appFresh nb z by_ st (.sub j q lo n true) x K else appSame nb z by_ st (.sub j q lo n true) x K
    | none => False
  | b => appFresh nb z by_ st b x K

def effVc (τ : Tab) (nb : Nat) (o : Op) (st : St) (K : AV → St → Prop) : Prop :=
  match o with
  | .store t p x => match st.ev p with
    | .ptr k q => (st.evT τ t x).isCell = true ∧ ((τ t).ld.map fun y => y.2) = some (st.evT τ t x).width ∧ storeVc nb st (st.evT τ t x) k q K
    | _ => False
  | .alloc t => match (τ t).zero with
    | some g => (AV.ofZ g).isCell = true ∧ boxVc nb st (AV.ofZ g) K
    | none => False
  | .box t x => (st.evT τ t x).isCell = true ∧ boxVc nb st (st.evT τ t x) K
  | .buildSlice t n parts => match (τ t).sl with
    | some (e, z, _, _) => match (τ e).zero with
      | some g => n * z ≤ 16777216 ∧ n ≤ 16777216 ∧ g.width = z ∧ 0 < z ∧
          partsVc st (fun i => some (i * z, z)) (AV.ofList (List.replicate n (AV.ofZ g))) parts.toList fun s => s.isSeq = true ∧ rowVc nb st z n s K
      | none => False
    | none => False
  | .call c => match c.callee, c.args.toList, c.argTypes.toList with
    | .builtin .append, [x, y], [t, u] => match (τ t).sl with
      | some (_, z, by_, _) => t = u ∧ appVc nb z by_ st (st.evT τ t x) (st.evT τ t y) K
      | none => False
    | _, _, _ => False
  | _ => False

theorem Rel.appSame {c : Cx} {τ : Tab} (hτ : Tab.Ok c.P τ) {st : St} {a : Act} {w : World} {I : Nat → Prop} {F : List G} (hd : a.defers = []) (hs : a.tmps.size = c.nt) (hi : Inv c st.X st.κ w I F)
    (he : EnvOk st.env a w I F) (hp : PlOk st.pl w I F) {t ty : TypeId} {e z by_ : Nat} {zv : Value} (ht : (τ t).sl = some (e, z, by_, zv)) {b x : AV} {v vx : Value}
    (hv : Rl w.heap I F b true [v]) (hx : Rl w.heap I F x true [vx]) {K : AV → St → Prop} (hK : Vc.appSame c.F0.length z by_ st b x K) :
    ∃ av st' v' w', K av st' ∧ (Builtin.append_ #[t, t] ty #[v, vx]).run c.P w = .ok v' w' ∧ RelR c st' av v' a w' := by
  unfold Vc.appSame at hK
  split at hK
  case h_2 => exact hK.elim
  rename_i rb r hrb hr
  obtain ⟨_, hm, ⟨hf1, hf2⟩, hK⟩ := hK
  rw [← hi.erase] at hr hrb
  obtain ⟨_, x', o2, A2, c2, _, _, s3, s4, _, s6, _⟩ := src_ok hi.holds hx hr
  obtain ⟨_, s, o1, A, cap, _, _, t3, t4, _, t6, _⟩ := src_ok hi.holds hv hrb
  subst s3
  subst t3
  rw [hm] at s4 ⊢
  obtain ⟨u1, inf, u2, u3, u4, u5, u6⟩ := (hτ t).sl _ _ _ _ ht
  rw [← u4] at s4 t4
  have hlow : ∀ b ∈ s.owned ++ x'.owned, b < w.heap.size := fun b hb => by
    rcases List.mem_append.1 hb with hb | hb
    · have h6 := t6 b; exact hi.lt b (by rw [mem_of_count] at *; omega)
    · have h6 := s6 b; exact hi.lt b (by rw [mem_of_count] at *; omega)
  have hcap := (slice_cells rfl t4).2.1
  obtain ⟨v', w', r1, r2, r3, r4, r5, r6, _, _, r9, _⟩ := append_node (P := c.P) w (ty := ty) u1 u2 u3 t4 s4 (by rw [u6, u4]) hi.ilt (fun _ h => by omega) hlow (by rw [u5]; exact hf1) hf2
  obtain ⟨h1, h2⟩ := r9 (by omega)
  have hheap : w'.heap = w.heap := by
    apply Array.ext_getElem?
    intro i
    rcases Nat.lt_or_ge i w.heap.size with h' | h'
    · exact r6 i h' fun _ _ _ h => by omega
    · rw [Array.getElem?_eq_none h', Array.getElem?_eq_none (by omega)]
  subst h1
  obtain ⟨g1, g2, I', F', g3, g4, g5⟩ := Rel.quiet (c := c) (st := st) ⟨hd, hs, I, F, hi, he, hp⟩ hheap r2 r3 r4
  refine ⟨_, _, _, w', hK, r1, hd, hs, I, F, ?_, ?_, ?_, by rw [hheap]; exact hv⟩
  · exact ⟨hi.erase, by rw [hheap]; exact hi.holds, hi.nodup, hi.apart, by rw [hheap]; exact hi.lt, by rw [hheap]; exact hi.ilt, r2.trans hi.os, r3.trans hi.tape, r4.trans hi.output,
      by rw [hheap]; exact hi.size, by rw [hheap]; exact hi.frame, hi.fresh, hi.imono, hi.inew, hi.base⟩
  · exact fun t => by rw [hheap]; exact he t
  · exact fun k q av hm => by rw [hheap]; exact hp k q av hm

theorem appVc_ok {c : Cx} {τ : Tab} (hτ : Tab.Ok c.P τ) {st : St} {a : Act} {w : World} {I : Nat → Prop} {F : List G} (hd : a.defers = []) (hs : a.tmps.size = c.nt) (hi : Inv c st.X st.κ w I F)
    (he : EnvOk st.env a w I F) (hp : PlOk st.pl w I F) {t ty : TypeId} {e z by_ : Nat} {zv : Value} (ht : (τ t).sl = some (e, z, by_, zv)) {b x : AV} {v vx : Value}
    (hv : Rl w.heap I F b true [v]) (hx : Rl w.heap I F x true [vx]) {K : AV → St → Prop} (hK : appVc c.F0.length z by_ st b x K) :
    ∃ av st' v' w', K av st' ∧ (Builtin.append_ #[t, t] ty #[v, vx]).run c.P w = .ok v' w' ∧ RelR c st' av v' a w' := by
  unfold appVc at hK
  split at hK
  · exact Rel.appRoot hτ hd hs hi he hp ht hv hx hK
  · rename_i j lo
    cases hj : Nat.ble c.F0.length j with
    | true => rw [hj] at hK; exact Rel.appRoot hτ hd hs hi he hp ht hv hx hK
    | false =>
      rw [hj] at hK
      simp only [cond_false] at hK
      split at hK
      · rename_i r _
        cases hb : Nat.blt 0 r.m with
        | true => rw [hb] at hK; exact Rel.appFresh hτ hd hs hi he hp ht hv hx hK
        | false => rw [hb] at hK; exact Rel.appSame hτ hd hs hi he hp ht hv hx hK
      · exact hK.elim
  · split at hK
    · rename_i r _
      cases hb : Nat.blt 0 r.m with
      | true => rw [hb] at hK; exact Rel.appFresh hτ hd hs hi he hp ht hv hx hK
      | false => rw [hb] at hK; exact Rel.appSame hτ hd hs hi he hp ht hv hx hK
    · exact hK.elim
  · exact Rel.appFresh hτ hd hs hi he hp ht hv hx hK

theorem ofList_replicate_rl {h : Array Obj} {I : Nat → Prop} {F : List G} {g : G} (hg : zeroish g = true) : ∀ n, Rl h I F (AV.ofList (List.replicate n (AV.ofZ g))) false (List.replicate n g.cells).flatten
  | 0 => rfl
  | n + 1 => ⟨_, _, by simp [List.replicate_succ], ofZ_rl hg, ofList_replicate_rl hg n⟩

theorem range_mod {zero : Array Value} : ∀ (n : Nat), 0 < zero.size → ((Array.range (n * zero.size)).map fun i => zero[i % zero.size]!).toList = (List.replicate n zero.toList).flatten := by
  intro n hz
  apply List.ext_getElem?
  intro i
  have hfl : ∀ (n i : Nat), (List.replicate n zero.toList).flatten[i]? = if i < n * zero.size then zero.toList[i % zero.size]? else none := by
    intro n
    induction n with
    | zero => intro i; simp
    | succ n ih =>
      intro i
      simp only [List.replicate_succ, List.flatten_cons]
      by_cases hi : i < zero.size
      · rw [List.getElem?_append_left (by simpa using hi), Nat.mod_eq_of_lt hi, if_pos (by rw [Nat.succ_mul]; omega)]
      · rw [List.getElem?_append_right (by simpa using hi), ih]
        simp only [Array.length_toList]
        rw [show i % zero.size = (i - zero.size) % zero.size from Nat.mod_eq_sub_mod (by omega), Nat.succ_mul]
        by_cases h2 : i < n * zero.size + zero.size
        · rw [if_pos h2, if_pos (by omega)]
        · rw [if_neg h2, if_neg (by omega)]
  rw [hfl]
  by_cases hi : i < n * zero.size
  · rw [if_pos hi]
    have := Nat.mod_lt i hz
    simp [hi, this]
  · rw [if_neg hi]
    simp; omega

theorem newRow_run {P : Program} (e : TypeId) (cs : Array Value) (w : World) : (newRow e cs).run P w = .ok ⟨w.heap.size, 0, none⟩ (w.alloc (.cells cs e)) := by
  simp [newRow]

theorem uni_erase {z : Nat} {x : G} (h : x.erase.uni z) : x.uni z := by
  induction x with
  | cons a t _ iht => simp only [T.erase, T.uni, T.erase_width] at h ⊢; exact ⟨h.1, iht h.2⟩
  | nil => trivial
  | _ => exact h.elim

/-- Operations that leave all old blocks alone. -/
def extOp : Op → Bool
  | .store _ _ _ => false
  | .call c => match c.callee with
    | .builtin .len => true
    | _ => false
  | _ => true

theorem ext_alloc (w : World) (o : Obj) : Ext w (w.alloc o) := fun _ hb => heap_alloc hb

theorem eff_ok {c : Cx} {τ : Tab} (hτ : Tab.Ok c.P τ) {st : St} {a : Act} {w : World} (h : Rel c st a w) {o : Oper} {K : AV → St → Prop} (hv : effVc τ c.F0.length o.op st K) :
    ∃ av st' v w' n, K av st' ∧ (execOp a.eval o).run c.P w = .ok n w' ∧ (n = .value v ∨ n = .skip ∧ v = undef) ∧ RelR c st' av v a w' ∧ (extOp o.op = true → Ext w w') := by
  obtain ⟨dst, op, ty, pos, after, guard⟩ := o
  obtain ⟨hd, hs, I, F, hi, he, hp⟩ := h
  simp only at hv
  unfold effVc at hv
  split at hv
  · -- store
    rename_i t p x
    split at hv
    case h_2 => exact hv.elim
    rename_i k q hpe
    obtain ⟨h1, h2, h3, h4, h5⟩ := hv
    have hpv := he.ev p
    rw [hpe] at hpv
    obtain ⟨b, o, h6, h7⟩ := hpv
    have hx := he.evT (τ := τ) t x
    generalize st.evT τ t x = av at *
    obtain ⟨w', h8, h9, h10, I', F', h11, h12, h13⟩ := Rel.store c.P hd hs hi he hp hx h1 h6 h3 h4
    have hw := (hx.toCells h1).width
    cases hld : (τ t).ld with
    | none => rw [hld] at h2; cases h2
    | some y =>
      rw [hld] at h2
      simp only [Option.map_some, Option.some.injEq] at h2
      obtain ⟨u1, u2, inf, u3, u4⟩ := (hτ t).ld y.1 y.2 (by rw [hld])
      injection h7 with h7 _
      refine ⟨.bad, _, undef, w', .skip, h5, ?_, .inr ⟨rfl, rfl⟩, ⟨h9, h10, I', F', h11, h12, h13, _, rfl⟩, fun h => by cases h⟩
      have hsz : (a.eval x).cells.size = inf.size := by rw [← Array.length_toList, hw, u4, h2]
      simp [execOp, Instr.storeAt, h7, Instr.sureAddr, storeVar, sizeOf, typeInfo, u3, hsz, h8]
  · -- alloc
    rename_i t
    split at hv
    case h_2 => exact hv.elim
    rename_i g hg
    obtain ⟨h1, h2⟩ := hv
    obtain ⟨z1, inf, z, z2, z3, z4⟩ := (hτ t).zero g hg
    have hR := Rel.boxC (cs := z.cells) hd hs hi he hp (by rw [z4]; exact ofZ_rl z1) h1 t
    exact ⟨_, _, _, _, _, h2, by simp [execOp, Instr.alloc, zeroValue, typeInfo, z2, z3, newVar, newRow], .inl rfl, hR, fun _ => ext_alloc _ _⟩
  · -- box
    rename_i t x
    obtain ⟨h1, h2⟩ := hv
    have hx := he.evT (τ := τ) t x
    have hR := Rel.boxC hd hs hi he hp (hx.toCells h1) h1 t
    exact ⟨_, _, _, _, _, h2, by simp [execOp, Instr.box, newVar, newRow], .inl rfl, hR, fun _ => ext_alloc _ _⟩
  · -- a slice written out
    rename_i t n parts
    split at hv
    case h_2 => exact hv.elim
    rename_i e z by_ zv ht
    split at hv
    case h_2 => exact hv.elim
    rename_i g hg
    obtain ⟨h0, h0', h1, h2, h3⟩ := hv
    obtain ⟨u1, inf, u2, u3, u4, u5, u6⟩ := (hτ t).sl _ _ _ _ ht
    obtain ⟨z1, inf', z', z2, z3, z4⟩ := (hτ e).zero g hg
    have hzz : zv.cells.toList = g.cells := by rw [u2] at z2; cases z2; rw [u3] at z3; cases z3; exact z4
    have hcells : ((Array.range (n * z)).map fun i => zv.cells[i % zv.cells.size]!).toList = (List.replicate n g.cells).flatten := by
      have := range_mod (zero := zv.cells) n (by omega)
      rw [u6] at this
      rw [← hzz]
      simpa only [u6] using this
    obtain ⟨s', c', k1, k2, k3, k4⟩ := parts_ok he parts.toList (AV.ofList (List.replicate n (AV.ofZ g))) _ (by rw [hcells]; exact ofList_replicate_rl z1 n) h3
    obtain ⟨k0, k1, k5, k6⟩ := k1
    have hR := Rel.rowC (z := z) (n := n) hd hs hi he hp k2 k0 (fun x hx => ⟨uni_erase (by rw [hx]; exact k1), by rw [← T.erase_len, hx]; exact k5⟩) (by omega) e
    refine ⟨_, _, _, _, _, k6, ?_, .inl rfl, hR, fun _ => ext_alloc _ _⟩
    have hmap : (parts.map fun (i, x) => (i, a.eval x)).toList = parts.toList.map fun (i, x) => (i, a.eval x) := by simp
    simp only [execOp, Instr.buildSlice, Sem.run_bind, run_underlying u1, Result.andThen_ok, sizeOf, typeInfo]
    simp [u2, u4]
    rw [if_neg (by omega)]
    by_cases h0z : n * z = 0
    · rw [if_pos h0z]
      have : ((Array.range (n * z)).map fun _ => (default : Value)) = (Array.range (n * z)).map fun i => zv.cells[i % zv.cells.size]! := by simp [h0z]
      rw [this]
      have k4' : Instr.fill (fun i => some (i * z, z)) ((Array.range (n * z)).map fun i => zv.cells[i % zv.cells.size]!) (parts.toList.map fun x => (x.1, a.eval x.2)) = some c' := k4
      simp [k4', newRow]
    · rw [if_neg h0z]
      have k4' : Instr.fill (fun i => some (i * z, z)) ((Array.range (n * z)).map fun i => zv.cells[i % zv.cells.size]!) (parts.toList.map fun x => (x.1, a.eval x.2)) = some c' := k4
      simp [zeroValue, typeInfo, u2, u3, k4', newRow]
  · -- append
    rename_i cc
    split at hv
    case h_2 => exact hv.elim
    rename_i x y t u hcal hargs hty
    split at hv
    case h_2 => exact hv.elim
    rename_i e z by_ zv ht
    obtain ⟨rfl, hv⟩ := hv
    obtain ⟨av, st', v', w', g1, g2, g3⟩ := appVc_ok hτ hd hs hi he hp (ty := ty) ht (he.evT (τ := τ) t x) (he.evT (τ := τ) t y) hv
    refine ⟨av, st', v', w', _, g1, ?_, .inl rfl, g3, fun h => by rw [extOp, hcal] at h; cases h⟩
    have h1 : cc.args.map a.eval = #[a.eval x, a.eval y] := by
      apply Array.ext'
      simp [hargs]
    have h2 : cc.argTypes = #[t, t] := by
      apply Array.ext'
      simp [hty]
    simp [execOp, resolve, hcal, h1, h2, invoke, builtin, g2]
  · exact hv.elim

end Go.Vc

/- One operation; a run of operations. -/
namespace Go.Vc
set_option linter.all false
open T (hdr blk)

/-- A state, and values of arguments. -/
def RelA (c : Cx) (st : St) (avs : AV) (vs : List Value) (a : Act) (w : World) : Prop :=
  a.defers = [] ∧ a.tmps.size = c.nt ∧ ∃ I F, Inv c st.X st.κ w I F ∧ EnvOk st.env a w I F ∧ PlOk st.pl w I F ∧ Rl w.heap I F avs true vs

/-- A function of the program that has a body. -/
def HasBody (P : Program) (f : FuncId) : Prop := ∃ fn, P.funcs[f]? = some fn ∧ fn.body.isSome = true ∧ (fn.name == "runtime.NumGoroutine") = false

/-- A call, and what is known behind it. -/
def CallW (c : Cx) (f : FuncId) (avs : AV) (st : St) (K : AV → St → Prop) : Prop :=
  ∀ a w vs, RelA c st avs vs a w → HasBody c.P f ∧ Calls c.P f vs.toArray w fun e w' => ∃ v av st', e = .returned v ∧ K av st' ∧ RelR c st' av v a w'

theorem CallW_congr {c : Cx} {f f' : FuncId} {avs avs' : AV} {st st' : St} {K : AV → St → Prop} (h0 : f = f') (h1 : avs = avs') (h2 : st = st') : CallW c f avs st K = CallW c f' avs' st' K := by
  subst h0; subst h1; subst h2; rfl

/-- Two struct values are asked to be the same. -/
def EqK (P : Program) (t : TypeId) (op : BinOp) (s u : AV) (K : AV → Prop) : Prop :=
  ∃ b, (P.eqGuardType P.depth t = false ∧ ∀ h I F xs ys w, Rl h I F s false xs → Rl h I F u false ys → (Op.equal t (.agg xs.toArray) (.agg ys.toArray)).run P w = .ok b w) ∧ eqVc op b K

theorem EqK_congr {P : Program} {t : TypeId} {op : BinOp} {s s' u u' : AV} {K : AV → Prop} (h1 : s = s') (h2 : u = u') : EqK P t op s u K = EqK P t op s' u' K := by
  subst h1; subst h2; rfl

/-- Sequences, one behind the other. -/
def AV.app : AV → AV → AV
  | .cons a t, u => .cons a (t.app u)
  | _, u => u

def argsOf (τ : Tab) (st : St) : List Operand → List TypeId → AV
  | x :: xs, t :: ts => .cons (st.evT τ t x) (argsOf τ st xs ts)
  | x :: xs, [] => .cons (st.ev x) (argsOf τ st xs [])
  | [], _ => .nil

def opVc (c : Cx) (τ : Tab) (o : Oper) (st : St) (K : AV → St → Prop) : Prop :=
  match o.op with
  | .load t x => loadVc τ (.load t x) st fun av => K av st
  | .store t p x => effVc τ c.F0.length (.store t p x) st K
  | .alloc t => effVc τ c.F0.length (.alloc t) st K
  | .box t x => effVc τ c.F0.length (.box t x) st K
  | .buildSlice t n parts => effVc τ c.F0.length (.buildSlice t n parts) st K
  | .build t parts => buildVc τ st t parts.toList fun av => K av st
  | .slice t x lo hi mx => (mx ≠ none → hi ≠ none) ∧ sliceVc τ st t (st.evT τ t x) (lo.map st.ev) (hi.map st.ev) (mx.map st.ev) fun av => K av st
  | .call cc => match cc.callee with
    | .builtin .append => effVc τ c.F0.length (.call cc) st K
    | .value f => match st.ev f with
      | .fn g s => s.isSeq = true ∧ CallW c g ((argsOf τ st cc.args.toList cc.argTypes.toList).app s) st K
      | _ => False
    | _ => pureVc τ (.call cc) o.type st fun av => K av st
  | .binOp op t x y ty => match st.ev x, st.ev y with
    | .agg s, .agg u => (op = .eql ∨ op = .neq) ∧ EqK c.P t op s u fun av => K av st
    | _, _ => pureVc τ (.binOp op t x y ty) o.type st fun av => K av st
  | op => pureVc τ op o.type st fun av => K av st

theorem argsOf_rl {τ : Tab} {st : St} {a : Act} {w : World} {I : Nat → Prop} {F : List G} (he : EnvOk st.env a w I F) : ∀ (xs : List Operand) (ts : List TypeId),
    Rl w.heap I F (argsOf τ st xs ts) true (xs.map a.eval)
  | [], _ => rfl
  | x :: xs, [] => ⟨_, _, rfl, he.ev x, argsOf_rl he xs []⟩
  | x :: xs, t :: ts => ⟨_, _, rfl, he.evT t x, argsOf_rl he xs ts⟩

theorem argsOf_app {τ : Tab} {st : St} {a : Act} {w : World} {I : Nat → Prop} {F : List G} (he : EnvOk st.env a w I F) {u : AV} {m : List Value} (H2 : Rl w.heap I F u true m) : ∀ (xs : List Operand) (ts : List TypeId),
    Rl w.heap I F ((argsOf τ st xs ts).app u) true (xs.map a.eval ++ m)
  | [], _ => H2
  | x :: xs, [] => ⟨_, _, rfl, he.ev x, argsOf_app he H2 xs []⟩
  | x :: xs, t :: ts => ⟨_, _, rfl, he.evT t x, argsOf_app he H2 xs ts⟩

theorem run_callFunc {P : Program} {f : FuncId} (h : HasBody P f) (args : Array Value) (w : World) : (callFunc f args).run P w = .ok (.enter f args) w := by
  obtain ⟨fn, h1, h2, h3⟩ := h
  have h4 : fn.body ≠ none := by rw [Option.isSome_iff_exists] at h2; obtain ⟨b, h2⟩ := h2; rw [h2]; simp
  have h5 : fn.name ≠ "runtime.NumGoroutine" := by simpa using h3
  simp [callFunc, h1, h4, h5]

/-- An operation: it runs to its end, and the state behind it is as said. -/
theorem op_ok {c : Cx} {τ : Tab} (hτ : Tab.Ok c.P τ) {st : St} {a : Act} {w : World} (h : Rel c st a w) {o : Oper} {K : AV → St → Prop} (hv : opVc c τ o st K) {next : Act → World → Prop} {Q : Exit → Act → World → Prop}
    (hn : ∀ av v st' w', K av st' → RelR c st' av v a w' → (extOp o.op = true → Ext w w') → next (a.put o.dst v) w') : o.wp c.P a w next Q := by
  obtain ⟨hd, hs, I, F, hi, he, hp⟩ := id h
  have value : ∀ av v st', K av st' → RelR c st' av v a w → (execOp a.eval o).run c.P w = .ok (.value v) w → o.wp c.P a w next Q := fun av v st' h1 h2 h3 => by
    unfold Oper.wp; rw [h3]; exact hn av v st' w h1 h2 fun _ _ _ => rfl
  have eff : effVc τ c.F0.length o.op st K → o.wp c.P a w next Q := fun hv => by
    obtain ⟨av, st', v, w', n, h1, h2, h3, h4, h5⟩ := eff_ok hτ h hv
    unfold Oper.wp; rw [h2]
    rcases h3 with rfl | ⟨rfl, rfl⟩
    · exact hn av v st' w' h1 h4 h5
    · exact hn av undef st' w' h1 h4 h5
  have pure : ∀ {K' : AV → Prop}, (∀ av, K' av → K av st) → pureVc τ o.op o.type st K' → o.wp c.P a w next Q := fun hk hv => by
    obtain ⟨av, v, h1, h2, h3⟩ := pure_ok hτ hi he hv
    exact value av v st (hk _ h1) ⟨hd, hs, I, F, hi, he, hp, h2⟩ (h3 w)
  unfold opVc at hv
  split at hv
  · rename_i t x ho
    obtain ⟨av, v, h1, h2, h3⟩ := load_ok hτ hi he hp (o := o) (K := fun av => K av st) (by rw [ho]; exact hv)
    exact value av v st h1 ⟨hd, hs, I, F, hi, he, hp, h2⟩ (h3 w fun _ _ => rfl)
  · rename_i ho; exact eff (by rw [ho]; exact hv)
  · rename_i ho; exact eff (by rw [ho]; exact hv)
  · rename_i ho; exact eff (by rw [ho]; exact hv)
  · rename_i ho; exact eff (by rw [ho]; exact hv)
  · rename_i t parts ho
    obtain ⟨av, v, h1, h2, h3⟩ := build_ok hτ he hv
    refine value av v st h1 ⟨hd, hs, I, F, hi, he, hp, h2⟩ ?_
    obtain ⟨dst, op, ty, pos, after, guard⟩ := o
    simp only at ho; subst ho
    simp [execOp, h3]
  · rename_i t x lo hi' mx ho
    obtain ⟨hm, hv⟩ := hv
    have opt : ∀ (x : Option Operand), RlO w.heap I F (x.map st.ev) (x.map a.eval) := fun x => by
      cases x with
      | none => trivial
      | some x => exact he.ev x
    obtain ⟨av, v, h1, h2, h3⟩ := slice_ok hτ hi (he.evT (τ := τ) t x) (opt lo) (opt hi') (opt mx) (by simpa using hm) hv
    refine value av v st h1 ⟨hd, hs, I, F, hi, he, hp, h2⟩ ?_
    obtain ⟨dst, op, ty, pos, after, guard⟩ := o
    simp only at ho; subst ho
    simp [execOp, h3]
  · rename_i cc ho
    split at hv
    · exact eff (by rw [ho]; exact hv)
    · rename_i f hcal
      split at hv
      case h_2 => exact hv.elim
      rename_i g s hf
      obtain ⟨hsq, hv⟩ := hv
      have hfv := he.ev f
      rw [hf] at hfv
      obtain ⟨l, h1, h2⟩ := hfv
      have hargs := argsOf_app (τ := τ) he h2 cc.args.toList cc.argTypes.toList
      obtain ⟨hb, hcalls⟩ := hv a w _ ⟨hd, hs, I, F, hi, he, hp, hargs⟩
      injection h1 with h1 _
      obtain ⟨dst, op, ty, pos, after, guard⟩ := o
      simp only at ho; subst ho
      have hrun : (execOp a.eval ⟨dst, .call cc, ty, pos, after, guard⟩).run c.P w = .ok (.enter g (cc.args.toList.map a.eval ++ l).toArray) w := by
        have harr : cc.args.map a.eval ++ l.toArray = (cc.args.toList.map a.eval ++ l).toArray := by apply Array.ext'; simp
        simp [execOp, resolve, hcal, h1, Deferred.ofValue, invoke, run_callFunc hb, harr]
      unfold Oper.wp; rw [hrun]
      refine Calls.mono hcalls fun e w' he' => ?_
      obtain ⟨v, av, st', rfl, k1, k2⟩ := he'
      exact hn av v st' w' k1 k2 fun h => by simp [extOp, hcal] at h
    · exact pure (K' := fun av => K av st) (fun _ h => h) (by rw [ho]; exact hv)
  · rename_i op t x y ty ho
    split at hv
    · rename_i s u hx hy
      obtain ⟨hop, b, ⟨h1, h2⟩, h3⟩ := hv
      have hxv := he.ev x
      have hyv := he.ev y
      rw [hx] at hxv
      rw [hy] at hyv
      obtain ⟨xs, e1, r1⟩ := hxv
      obtain ⟨ys, e2, r2⟩ := hyv
      injection e1 with e1 _
      injection e2 with e2 _
      have hr := h2 w.heap I F xs ys w r1 r2
      obtain ⟨dst, op', ty', pos, after, guard⟩ := o
      simp only at ho; subst ho
      rcases hop with rfl | rfl
      · refine value _ (.bool b) st h3 ⟨hd, hs, I, F, hi, he, hp, rfl, rfl⟩ ?_
        simp [execOp, eqGuard, h1, binOp, e1, e2, hr]
      · refine value _ (.bool !b) st h3 ⟨hd, hs, I, F, hi, he, hp, rfl, rfl⟩ ?_
        simp [execOp, eqGuard, h1, binOp, e1, e2, hr]
    · exact pure (K' := fun av => K av st) (fun _ h => h) (by rw [ho]; exact hv)
  · rename_i op ho1 _ _ _ _ _ _ _ _
    exact pure (K' := fun av => K av st) (fun _ h => h) hv

/-! ### Runs of operations -/

/-- The slots of the operations that guards ask. -/
def glook : List (Nat × Tmp) → Nat → Option Tmp
  | [], _ => none
  | (g, t) :: l, i => if g = i then some t else glook l i

def gsOk (all : List Oper) (gs : List (Nat × Tmp)) : Bool := gs.all fun (g, t) => (all[g]?).bind (·.dst) == some t

/-- Whether an operation is wanted, as far as the state tells. -/
def guardOf (gs : List (Nat × Tmp)) (st : St) : Option (Nat × Bool) → Option Bool
  | none => some true
  | some (g, want) => match glook gs g with
    | some t => match look st.env t with
      | .val (.bool b) => some (b == want)
      | .tup _ => some false
      | _ => none
    | none => none

def putVc (gs : List (Nat × Tmp)) (i : Nat) (dst : Option Tmp) (av : AV) (st : St) (K : St → Prop) : Prop :=
  match glook gs i, av with
  | some _, .val (.bool b) => (b = true → K (st.put dst (.val (.bool true)))) ∧ (b = false → K (st.put dst (.val (.bool false))))
  | _, av => K (st.put dst av)

def vcOps (c : Cx) (τ : Tab) (gs : List (Nat × Tmp)) : List Oper → Nat → St → (St → Prop) → Prop
  | [], _, st, K => K st
  | o :: r, i, st, K => match guardOf gs st o.guard with
    | some true => opVc c τ o st fun av st' => putVc gs i o.dst av st' fun st => vcOps c τ gs r (i + 1) st K
    | some false => vcOps c τ gs r (i + 1) (st.put o.dst (.tup .nil)) K
    | none => False

theorem glook_ok {all : List Oper} {gs : List (Nat × Tmp)} (h : gsOk all gs = true) {g : Nat} {t : Tmp} (hg : glook gs g = some t) : (all[g]?).bind (·.dst) = some t := by
  induction gs with
  | nil => cases hg
  | cons e l ih =>
    obtain ⟨g', t'⟩ := e
    simp only [gsOk, List.all_cons, Bool.and_eq_true, beq_iff_eq] at h
    simp only [glook] at hg
    split at hg
    · rename_i he; subst he; cases hg; exact h.1
    · exact ih h.2 hg

theorem guardOf_ok {all : List Oper} {gs : List (Nat × Tmp)} (hgs : gsOk all gs = true) {st : St} {a : Act} {w : World} {c : Cx} (h : Rel c st a w) {o : Oper} {b : Bool} (hg : guardOf gs st o.guard = some b) :
    Region.wanted o (yielded all.toArray a.tmps) = b := by
  obtain ⟨hd, hs, I, F, hi, he, hp⟩ := h
  unfold Region.wanted
  cases hog : o.guard with
  | none => rw [hog] at hg; simpa [guardOf] using hg
  | some gw =>
    obtain ⟨g, want⟩ := gw
    rw [hog] at hg
    simp only [guardOf] at hg
    cases ht : glook gs g with
    | none => rw [ht] at hg; cases hg
    | some t =>
      rw [ht] at hg
      simp only at hg
      have hv := he t
      split at hg
      · rename_i b' hl
        rw [hl] at hv
        simp only [Option.some.injEq] at hg
        subst hg
        obtain ⟨hv, _⟩ := hv
        have hy : yielded all.toArray a.tmps g = some b' := by
          unfold yielded
          have h1 : (all.toArray[g]?).bind (·.dst) = some t := by simpa using glook_ok hgs ht
          rw [h1]
          simp only [Option.bind_some]
          have h2 : a.tmps[t]? = some (.bool b') := by
            have h3 : a.tmps[t]?.getD undef = .bool b' := by simpa using hv
            cases h4 : a.tmps[t]? with
            | none => rw [h4] at h3; simp [undef] at h3
            | some u => rw [h4] at h3; simp at h3; rw [h3]
          rw [h2]
        simp only [hy]
        cases b' <;> cases want <;> rfl
      · rename_i s hl
        rw [hl] at hv
        simp only [Option.some.injEq] at hg
        subst hg
        obtain ⟨l, hv, _⟩ := hv
        injection hv with hv _
        have hy : yielded all.toArray a.tmps g = none := by
          unfold yielded
          have h1 : (all.toArray[g]?).bind (·.dst) = some t := by simpa using glook_ok hgs ht
          rw [h1]
          simp only [Option.bind_some]
          cases h4 : a.tmps[t]? with
          | none => rfl
          | some u =>
            have h5 : u = .tuple l.toArray := by simpa [h4] using hv
            subst h5
            rfl
        simp only [hy]
        rfl
      · cases hg

theorem put_ok {c : Cx} {gs : List (Nat × Tmp)} {i : Nat} {dst : Option Tmp} {av : AV} {st : St} {K : St → Prop} {v : Value} {a : Act} {w : World} (hv : putVc gs i dst av st K) (h : RelR c st av v a w)
    (hd : ∀ t, dst = some t → t < c.nt) : ∃ st', K st' ∧ Rel c st' (a.put dst v) w := by
  unfold putVc at hv
  split at hv
  · rename_i b _
    cases b with
    | true => exact ⟨_, hv.1 rfl, h.put hd⟩
    | false => exact ⟨_, hv.2 rfl, h.put hd⟩
  · exact ⟨_, hv, h.put hd⟩

def dstsOk (nt : Nat) (l : List Oper) : Bool := l.all fun o => match o.dst with
  | some t => Nat.blt t nt
  | none => true

theorem ops_ok {c : Cx} {τ : Tab} (hτ : Tab.Ok c.P τ) {all : List Oper} {gs : List (Nat × Tmp)} (hgs : gsOk all gs = true) {Q : Exit → Act → World → Prop} {K : St → Prop} (hQ : ∀ st a w, K st → Rel c st a w → Q .normal a w) :
    ∀ (l : List Oper) (i : Nat) (st : St) (a : Act) (w : World), dstsOk c.nt l = true → Rel c st a w → vcOps c τ gs l i st K → wpList c.P all.toArray Q l a w
  | [], _, st, a, w, _, h, hv => hQ st a w hv h
  | o :: r, i, st, a, w, hl, h, hv => by
    simp only [dstsOk, List.all_cons, Bool.and_eq_true] at hl
    have hdst : ∀ t, o.dst = some t → t < c.nt := fun t ht => by
      have := hl.1; rw [ht] at this; exact Nat.le_of_ble_eq_true this
    unfold vcOps at hv
    unfold wpList
    split at hv
    · rename_i hg
      rw [if_pos (guardOf_ok hgs h hg)]
      refine .inl (op_ok hτ h hv fun av v st' w' h1 h2 _ => ?_)
      obtain ⟨st'', h3, h4⟩ := put_ok h1 h2 hdst
      exact ops_ok hτ hgs hQ r (i + 1) st'' _ w' hl.2 h4 h3
    · rename_i hg
      rw [guardOf_ok hgs h hg]
      simp only [Bool.false_eq_true, if_false]
      obtain ⟨hd, hs, I, F, hi, he, hp⟩ := h
      exact ops_ok hτ hgs hQ r (i + 1) _ _ w hl.2 (RelR.put (av := .tup .nil) (v := undef) ⟨hd, hs, I, F, hi, he, hp, [], rfl, rfl⟩ hdst) hv
    · exact hv.elim

end Go.Vc
