/- A function that only reads a tree may be shown with the tree as one that cannot change. -/
import Derived.Test.YthcndkpkkaphoaaK3
namespace Go.Vc
set_option linter.all false
open T (hdr blk)

namespace T
variable {α : Type}
/-- The same, owned by others. -/
def freeze : T α → T α
  | .val v => .val v
  | .junk a => .junk a
  | .nil => .nil
  | .cons h t => .cons h.freeze t.freeze
  | .agg s => .agg s.freeze
  | .sl _ a z s => .sl false a z s.freeze
  | .box _ a g => .box false a g.freeze
  | .map _ a s => .map false a s.freeze

/-- All nodes are its own. -/
def allOwn : T α → Bool
  | .cons h t => h.allOwn && t.allOwn
  | .agg s => s.allOwn
  | .sl o _ _ s => o && s.allOwn
  | .box o _ g => o && g.allOwn
  | .map o _ s => o && s.allOwn
  | _ => true

theorem freeze_free (g : T α) : g.freeze.free = true := by
  induction g with
  | cons h t ihh iht => simp [freeze, free, ihh, iht]
  | agg s ih => simpa [freeze, free] using ih
  | sl o a z s ih => simpa [freeze, free] using ih
  | box o a s ih => simpa [freeze, free] using ih
  | map o a s ih => simpa [freeze, free] using ih
  | _ => rfl
theorem freeze_erase (g : G) : g.freeze.erase = g.erase.freeze := by
  induction g with
  | cons h t ihh iht => simp [freeze, erase, ihh, iht]
  | agg s ih => simp [freeze, erase, ih]
  | sl o a z s ih => simp [freeze, erase, ih]
  | box o a s ih => simp [freeze, erase, ih]
  | map o a s ih => simp [freeze, erase, ih]
  | _ => rfl
theorem freeze_width (g : T α) : g.freeze.width = g.width := by
  induction g with
  | cons h t ihh iht => simp [freeze, width, ihh, iht]
  | agg s ih => simpa [freeze, width] using ih
  | _ => rfl
theorem freeze_len (g : T α) : g.freeze.len = g.len := by
  induction g with
  | cons h t ihh iht => simp [freeze, len, iht]
  | _ => rfl
theorem freeze_cells (g : G) : g.freeze.cells = g.cells := by
  induction g with
  | cons h t ihh iht => simp [freeze, cells, ihh, iht]
  | agg s ih => simpa [freeze, cells] using ih
  | _ => rfl
theorem freeze_uni {z : Nat} {g : T α} (h : g.uni z) : g.freeze.uni z := by
  induction g with
  | cons a t _ iht => exact ⟨by rw [freeze_width]; exact h.1, iht h.2⟩
  | nil => trivial
  | _ => exact h.elim
theorem allOwn_erase (g : G) : g.erase.allOwn = g.allOwn := by
  induction g with
  | cons h t ihh iht => simp [erase, allOwn, ihh, iht]
  | agg s ih => simpa [erase, allOwn] using ih
  | sl o a z s ih => simp [erase, allOwn, ih]
  | box o a s ih => simp [erase, allOwn, ih]
  | map o a s ih => simp [erase, allOwn, ih]
  | _ => rfl

theorem entries_freeze {g : G} : ∀ {es : List MapEntry}, entriesAre es g → entriesAre es g.freeze := by
  induction g with
  | cons h t _ iht =>
    intro es H
    cases es with
    | nil => exact H.elim
    | cons e es =>
      unfold entriesAre at H
      split at H
      · rename_i heq1 heq2; cases heq1
      · rename_i heq1 heq2
        cases heq1; cases heq2
        obtain ⟨h1, h2, h3⟩ := H
        simp only [freeze, entriesAre]
        exact ⟨h1, by rw [freeze_cells]; exact h2, iht h3⟩
      · exact H.elim
  | nil => intro es H; cases es <;> exact H
  | _ => intro es H; cases es <;> exact H.elim

theorem Holds.freeze {h : Array Obj} {I I' : Nat → Prop} {g : G} (H : Holds h I g) (hI : ∀ b, I b → I' b) (ho : ∀ b ∈ g.owned, I' b) : Holds h I' g.freeze := by
  induction g with
  | val v => exact H
  | junk a => exact H
  | nil => trivial
  | cons x t ihx iht => exact ⟨ihx H.1 fun b hb => ho b (by simp [owned, hb]), iht H.2 fun b hb => ho b (by simp [owned, hb])⟩
  | agg s ih => exact ih H fun b hb => ho b (by simpa [owned] using hb)
  | sl own a z s ih =>
    obtain ⟨h1, h2, h3, h4⟩ := H
    have hs : ∀ b ∈ s.owned, I' b := fun b hb => by
      cases own
      · rw [owned_free (h3 rfl)] at hb; cases hb
      · exact ho b (by simp [owned, hb])
    refine ⟨ih h1 hs, freeze_uni h2, fun _ => freeze_free s, ?_⟩
    rw [freeze_len, freeze_cells]
    split at h4
    · exact h4
    · exact h4
    · rename_i x n c
      obtain ⟨g1, g2, g3, g4, g5, row, e, fr, g6, gf, g7⟩ := h4
      refine ⟨g1, g2, g3, g4, fun _ => ?_, row, e, fr, g6, (fun h => by cases h), g7⟩
      cases own
      · exact hI _ (g5 rfl)
      · exact ho _ (by simp [owned, blk])
    · exact h4.elim
  | box own a g ih =>
    obtain ⟨h1, h3, h4⟩ := H
    have hs : ∀ b ∈ g.owned, I' b := fun b hb => by
      cases own
      · rw [owned_free (h3 rfl)] at hb; cases hb
      · exact ho b (by simp [owned, hb])
    refine ⟨ih h1 hs, fun _ => freeze_free g, ?_⟩
    rw [freeze_cells]
    split at h4
    · rename_i x
      obtain ⟨g1, g5, gz, g6⟩ := h4
      refine ⟨g1, fun _ => ?_, (fun h => by cases h), g6⟩
      cases own
      · exact hI _ (g5 rfl)
      · exact ho _ (by simp [owned, blk])
    · exact h4.elim
  | map own a s ih =>
    obtain ⟨h1, h3, h4⟩ := H
    have hs : ∀ b ∈ s.owned, I' b := fun b hb => by
      cases own
      · rw [owned_free (h3 rfl)] at hb; cases hb
      · exact ho b (by simp [owned, hb])
    refine ⟨ih h1 hs, fun _ => freeze_free s, ?_⟩
    split at h4
    · rename_i r
      obtain ⟨g5, es, c, g6, g7⟩ := h4
      refine ⟨fun _ => ?_, es, c, g6, entries_freeze g7⟩
      cases own
      · exact hI _ (g5 rfl)
      · exact ho _ (by simp [owned, blk])
    · exact h4.elim

theorem Holds.own {h : Array Obj} {I I' : Nat → Prop} {g : G} (H : Holds h I g) (ho : g.allOwn = true) : Holds h I' g := by
  induction g with
  | val v => exact H
  | junk a => exact H
  | nil => trivial
  | cons x t ihx iht =>
    simp only [allOwn, Bool.and_eq_true] at ho
    exact ⟨ihx H.1 ho.1, iht H.2 ho.2⟩
  | agg s ih => exact ih H ho
  | sl own a z s ih =>
    simp only [allOwn, Bool.and_eq_true] at ho
    obtain ⟨rfl, ho⟩ := ho
    obtain ⟨h1, h2, h3, h4⟩ := H
    refine ⟨ih h1 ho, h2, h3, ?_⟩
    split at h4
    · exact h4
    · exact h4
    · obtain ⟨g1, g2, g3, g4, g5, g6⟩ := h4
      exact ⟨g1, g2, g3, g4, (fun h => by cases h), g6⟩
    · exact h4.elim
  | box own a g ih =>
    simp only [allOwn, Bool.and_eq_true] at ho
    obtain ⟨rfl, ho⟩ := ho
    obtain ⟨h1, h3, h4⟩ := H
    refine ⟨ih h1 ho, h3, ?_⟩
    split at h4
    · obtain ⟨g1, g5, g6⟩ := h4
      exact ⟨g1, (fun h => by cases h), g6⟩
    · exact h4.elim
  | map own a s ih =>
    simp only [allOwn, Bool.and_eq_true] at ho
    obtain ⟨rfl, ho⟩ := ho
    obtain ⟨h1, h3, h4⟩ := H
    refine ⟨ih h1 ho, h3, ?_⟩
    split at h4
    · obtain ⟨g5, g6⟩ := h4
      exact ⟨(fun h => by cases h), g6⟩
    · exact h4.elim
end T

/-- Nothing in it that belongs to others. -/
def AV.plain : AV → Bool
  | .imm _ _ _ => false
  | .iptr _ => false
  | .cons a t => a.plain && t.plain
  | .agg s => s.plain
  | .tup s => s.plain
  | .fn _ s => s.plain
  | _ => true

theorem Rl.still {h : Array Obj} {I I' : Nat → Prop} {F F' : List G} {av : AV} {m : Bool} {vs : List Value} (H : Rl h I F av m vs) (hI : ∀ b, I b → I' b) (ha : av.still = true) : Rl h I' F' av m vs := by
  refine H.agree (fun _ _ => rfl) hI ?_
  clear H
  induction av with
  | cons a t iha iht => simp only [AV.still, Bool.and_eq_true] at ha; exact ⟨iha ha.1, iht ha.2⟩
  | agg s ih => exact ih ha
  | tup s ih => exact ih ha
  | fn f s ih => exact ih ha
  | ptr _ _ => cases ha
  | sub _ _ _ _ _ => cases ha
  | mp _ _ => cases ha
  | _ => trivial

theorem Rl.shift {h : Array Obj} {I I' : Nat → Prop} {F : List G} {g0 : G} {av : AV} (ha : av.plain = true) : ∀ {m : Bool} {vs : List Value}, Rl h I F av m vs → Rl h I' (g0 :: F) (av.emb [] 1) m vs := by
  have hk : ∀ k, embK [] 1 k = (k + 1, []) := fun k => by simp [embK]; omega
  induction av with
  | bad => intro m vs H; cases m <;> exact H
  | val v => intro m vs H; cases m <;> exact H
  | nils z => intro m vs H; cases m <;> exact H
  | ptr k q =>
    intro m vs H
    have e : (AV.ptr k q).emb [] 1 = .ptr (k + 1) q := by simp only [AV.emb, hk, List.nil_append]
    rw [e]
    cases m <;> (obtain ⟨b, o, h1, h2⟩ := H; exact ⟨b, o, by simpa [locF] using h1, h2⟩)
  | sub k q lo n ex =>
    intro m vs H
    have e : (AV.sub k q lo n ex).emb [] 1 = .sub (k + 1) q lo n ex := by simp only [AV.emb, hk, List.nil_append]
    rw [e]
    cases m <;> (obtain ⟨own, a, z, len, v, h1, h2⟩ := H; exact ⟨own, a, z, len, v, by simpa [hdrF] using h1, h2⟩)
  | mp k q =>
    intro m vs H
    have e : (AV.mp k q).emb [] 1 = .mp (k + 1) q := by simp only [AV.emb, hk, List.nil_append]
    rw [e]
    cases m <;> (obtain ⟨own, r, z, len, h1, h2⟩ := H; exact ⟨own, r, z, len, by simpa [hdrF] using h1, h2⟩)
  | imm z s ex => cases ha
  | iptr d => cases ha
  | nil => intro m vs H; cases m <;> exact H
  | cons a t iha iht =>
    simp only [AV.plain, Bool.and_eq_true] at ha
    intro m vs H
    cases m
    · obtain ⟨v1, v2, h1, h2, h3⟩ := H
      exact ⟨v1, v2, h1, iha ha.1 h2, iht ha.2 h3⟩
    · obtain ⟨v1, v2, h1, h2, h3⟩ := H
      exact ⟨v1, v2, h1, iha ha.1 h2, iht ha.2 h3⟩
  | agg s ih =>
    intro m vs H
    cases m
    · exact ih ha (m := false) H
    · obtain ⟨cs, h1, h2⟩ := H
      exact ⟨cs, h1, ih ha h2⟩
  | tup s ih =>
    intro m vs H
    cases m
    · exact H
    · obtain ⟨cs, h1, h2⟩ := H
      exact ⟨cs, h1, ih ha h2⟩
  | fn f s ih =>
    intro m vs H
    cases m <;> (obtain ⟨cs, h1, h2⟩ := H; exact ⟨cs, h1, ih ha h2⟩)

/-- What was shown of a receiver that cannot change holds of one that can, and leaves it as it is; what comes out must be all new. -/
theorem Meets.thaw {P : Program} {f : FuncId} {d : D} {t : AV} {R : AV → List D → List (Nat × Path) → Prop} (h : Meets P f [] (.cons (.iptr d.freeze) t) R) (ht : t.still = true)
    (hR : ∀ av X κ, R av X κ → av.plain = true ∧ ∀ x ∈ X, x.allOwn = true) :
    Meets P f [.box true () d] (.cons (.ptr 0 [.d]) t) fun av X κ => ∃ av0 X0 κ0, R av0 X0 κ0 ∧ av = av0.emb [] 1 ∧ X = .box true () d :: X0 ∧ κ = [] := by
  refine ⟨h.1, fun w I F0 vs hY hH hnd hap hlt hil hvs => ?_⟩
  obtain ⟨g0, rfl⟩ : ∃ g0, F0 = [g0] := by
    cases F0 with
    | nil => simp at hY
    | cons g0 l =>
      cases l with
      | nil => exact ⟨g0, rfl⟩
      | cons _ _ => simp at hY
  simp only [List.map_cons, List.map_nil, List.cons.injEq, and_true] at hY
  have hg0 := hH g0 (by simp)
  obtain ⟨a, g, rfl⟩ : ∃ a g, g0 = .box true a g := by
    cases g0 <;> simp only [T.erase] at hY <;> cases hY
    exact ⟨_, _, rfl⟩
  simp only [T.erase, T.box.injEq, true_and] at hY
  obtain ⟨h1, h3, h4⟩ := id hg0
  have howns : own [(.box true a g : G)] = blk a ++ g.owned := by simp [own, T.owned]
  obtain ⟨v, vs', rfl, hv, hrest⟩ := hvs
  obtain ⟨b, o, hl, hv⟩ := hv
  simp only [List.cons.injEq, and_true] at hv
  split at h4
  case h_2 => exact h4.elim
  rename_i x
  obtain ⟨k1, _, _, k2⟩ := h4
  obtain ⟨xb, xo, xs⟩ := x
  simp only at k1
  subst k1
  have hbo : b = xb ∧ o = xo := by
    simp only [locF, List.getElem?_cons_zero, Option.bind_some, T.loc, T.headAt, Option.some.injEq, Loc.abs.injEq] at hl
    exact ⟨hl.1.symm, by omega⟩
  obtain ⟨rfl, rfl⟩ := hbo
  have hblk : b ∈ own [(.box true (.pointer (some ⟨b, o, none⟩)) g : G)] := by rw [howns]; simp [blk]
  have harg : Rl w.heap (fun b' => I b' ∨ b' ∈ own [(.box true (.pointer (some ⟨b, o, none⟩)) g : G)]) [] (.cons (.iptr d.freeze) t) true (v :: vs') := by
    refine ⟨v, vs', rfl, ⟨v, rfl, g.freeze, ⟨b, o, none⟩, by rw [T.freeze_erase, hY], h1.freeze (fun b hb => .inl hb) (fun b hb => .inr (by rw [howns]; simp [hb])), T.freeze_free g, hv, rfl, .inr hblk, by rw [T.freeze_cells]; exact k2⟩, hrest.still (fun b hb => .inl hb) ht⟩
  refine Calls.mono (h.2 w _ [] (v :: vs') rfl (by simp) (by simp [own]) (by simp [own]) (by simp [own]) (fun b' hb => hb.elim (hil b') (hlt b')) harg) fun e w' he => ?_
  obtain ⟨v', av, X, κ, I', F', rfl, hRR, hi, hr⟩ := he
  obtain ⟨hp, hX⟩ := hR _ _ _ hRR
  have hframe : ∀ b', b' < w.heap.size → w'.heap[b']? = w.heap[b']? := fun b' hb => hi.frame b' hb (by simp [own])
  have hfresh : ∀ b' ∈ own F', w.heap.size ≤ b' := fun b' hb => by
    rcases Nat.lt_or_ge b' w.heap.size with h' | h'
    · have := hi.fresh b' hb h'; simp [own] at this
    · exact h'
  refine ⟨v', av.emb [] 1, .box true () d :: X, [], I, _, rfl, ⟨av, X, κ, hRR, rfl, rfl, rfl⟩, ⟨?_, ?_, ?_, ?_, ?_, ?_, hi.os, hi.tape, hi.output, hi.size, ?_, ?_, fun _ hb => hb, fun _ hb => .inl hb, ?_⟩, hr.shift (g0 := .box true (.pointer (some ⟨b, o, none⟩)) g) hp⟩
  · simp [T.erase, hY, hi.erase]
  · intro g' hg'
    rcases List.mem_cons.1 hg' with rfl | hg'
    · exact hg0.agree (fun b' hb => hframe b' (hlt b' (by simpa [own] using hb))) (fun b' hb => hframe b' (hil b' hb)) fun _ h => h
    · refine (hi.holds g' hg').own ?_
      rw [← T.allOwn_erase]
      exact hX _ (by rw [← hi.erase]; exact List.mem_map_of_mem hg')
  · have e : own (T.box true (.pointer (some ⟨b, o, none⟩)) g :: F') = own [(.box true (.pointer (some ⟨b, o, none⟩)) g : G)] ++ own F' := by simp [own]
    rw [e]
    exact List.nodup_append.2 ⟨hnd, hi.nodup, fun x hx y hy hxy => by have := hlt x hx; have := hfresh y hy; omega⟩
  · intro b' hb
    have e : own (T.box true (.pointer (some ⟨b, o, none⟩)) g :: F') = own [(.box true (.pointer (some ⟨b, o, none⟩)) g : G)] ++ own F' := by simp [own]
    rw [e] at hb
    rcases List.mem_append.1 hb with hb | hb
    · exact hap b' hb
    · intro hI; have := hil b' hI; have := hfresh b' hb; omega
  · intro b' hb
    have e : own (T.box true (.pointer (some ⟨b, o, none⟩)) g :: F') = own [(.box true (.pointer (some ⟨b, o, none⟩)) g : G)] ++ own F' := by simp [own]
    rw [e] at hb
    rcases List.mem_append.1 hb with hb | hb
    · exact Nat.lt_of_lt_of_le (hlt b' hb) hi.size
    · exact hi.lt b' hb
  · exact fun b' hb => Nat.lt_of_lt_of_le (hil b' hb) hi.size
  · exact fun b' hb _ => hframe b' hb
  · intro b' hb hlt'
    have e : own (T.box true (.pointer (some ⟨b, o, none⟩)) g :: F') = own [(.box true (.pointer (some ⟨b, o, none⟩)) g : G)] ++ own F' := by simp [own]
    rw [e] at hb
    rcases List.mem_append.1 hb with hb | hb
    · exact hb
    · have h1 := hfresh b' hb
      have h2 : b' < w.heap.size := hlt'
      omega
  · intro k g1 hk
    cases k with
    | zero =>
      simp only [List.getElem?_cons_zero, Option.some.injEq] at hk
      subst hk
      exact ⟨_, rfl, rfl, fun _ _ => rfl, fun _ _ => rfl, fun _ _ h _ => h⟩
    | succ k => simp at hk
end Go.Vc
