/- What a house of the document keeps, whatever is done. -/
import Derived.Test.YtkkbcpcihadkhaaK6
import Derived.Test.YtkkbcpcihadkhaaK5
import Derived.Test.YtkkbcpcihadkhaaK3
import Derived.ChangeArms
import Derived.ChangeSlices
import Derived.Carry
namespace Go.Proofs.Ytkkbcpcihadkhaa
set_option linter.all false
open Go.Vc Go.Proofs
structure Good (h : Hs) : Prop where
  ok : Hok h
  raw : Raw h
theorem gd_in {L : List Tg} {z : Int} (hz : 0 ≤ z ∧ z < L.length) : ∃ k : Nat, z = k ∧ ∃ hk : k < L.length, gd L z = L[k] := by
  have hk : z.toNat < L.length := by omega
  exact ⟨z.toNat, by omega, hk, by simp [gd, hk]⟩
theorem gd_app {L T : List Tg} {z : Int} (hz : 0 ≤ z ∧ z < L.length) : gd (L ++ T) z = gd L z := by
  simp only [gd, List.getD_eq_getElem?_getD, List.getElem?_append_left (show z.toNat < L.length by omega)]
theorem Hok.app {h : Hs} (k : Hok h) {T : List Tg} (hl : h.things.length + T.length ≤ 400) (hT : ∀ t ∈ T, t.items.length ≤ 50 ∧ (-2 ≤ t.owner ∧ t.owner < h.rooms.length) ∧ (t.list = false → t.items = []) ∧ ∀ z ∈ t.items, (0 ≤ z ∧ z < (h.things ++ T).length) ∧ ((gd (h.things ++ T) z).owner = t.owner ∨ (gd (h.things ++ T) z).owner = -1)) :
    Hok { h with things := h.things ++ T } := by
  refine ⟨k.rooms, by simpa using hl, fun t ht => ?_, fun t ht z hz => ?_, fun r hr => ⟨(k.queues r hr).1, fun z hz => ?_⟩, fun t ht => ?_, fun t ht => ?_, fun t ht z hz => ?_⟩
  · exact (List.mem_append.1 ht).elim (k.few t) fun h => (hT t h).1
  · rcases List.mem_append.1 ht with h1 | h1
    · have := k.items t h1 z hz; simp only [List.length_append]; omega
    · exact ((hT t h1).2.2.2 z hz).1
  · have := (k.queues r hr).2 z hz; simp only [List.length_append]; omega
  · exact (List.mem_append.1 ht).elim (k.owners t) fun h => (hT t h).2.1
  · exact (List.mem_append.1 ht).elim (k.leaves t) fun h => (hT t h).2.2.1
  · rcases List.mem_append.1 ht with h1 | h1
    · have h2 := k.items t h1 z hz
      have h3 := k.apart t h1 z hz
      have e := gd_app (T := T) h2
      rw [gd, gd] at e
      simp only [e]; exact h3
    · exact ((hT t h1).2.2.2 z hz).2
theorem Hok.remap {h : Hs} (k : Hok h) (L : List Tg) (hl : L.length = h.things.length) (h1 : ∀ i : Nat, (hi : i < L.length) → (L[i].items = (h.things[i]'(hl ▸ hi)).items ∧ L[i].list = (h.things[i]'(hl ▸ hi)).list) ∧ (-2 ≤ L[i].owner ∧ L[i].owner < h.rooms.length))
    (h2 : ∀ i : Nat, (hi : i < L.length) → ∀ z : Nat, (hz : z < L.length) → (z : Int) ∈ L[i].items → (L[z].owner = L[i].owner ∨ L[z].owner = -1)) : Hok { h with things := L } := by
  refine ⟨k.rooms, by simpa [hl] using k.things, fun t ht => ?_, fun t ht z hz => ?_, fun r hr => ⟨(k.queues r hr).1, fun z hz => ?_⟩, fun t ht => ?_, fun t ht hli => ?_, fun t ht z hz => ?_⟩
  · obtain ⟨i, hi, rfl⟩ := List.getElem_of_mem ht
    rw [(h1 i hi).1.1]; exact k.few _ (List.getElem_mem _)
  · obtain ⟨i, hi, rfl⟩ := List.getElem_of_mem ht
    rw [(h1 i hi).1.1] at hz; simp only [hl]; exact k.items _ (List.getElem_mem _) z hz
  · simp only [hl]; exact (k.queues r hr).2 z hz
  · obtain ⟨i, hi, rfl⟩ := List.getElem_of_mem ht
    exact (h1 i hi).2
  · obtain ⟨i, hi, rfl⟩ := List.getElem_of_mem ht
    rw [(h1 i hi).1.2] at hli; rw [(h1 i hi).1.1]; exact k.leaves _ (List.getElem_mem _) hli
  · obtain ⟨i, hi, rfl⟩ := List.getElem_of_mem ht
    have hv : 0 ≤ z ∧ z < L.length := by
      have := hz
      rw [(h1 i hi).1.1] at this; simp only [hl]; exact k.items _ (List.getElem_mem _) z this
    obtain ⟨y, rfl, hy, e⟩ := gd_in hv
    rw [gd] at e
    simp only [e]
    exact h2 i hi y hy hz
theorem Hok.upd {h : Hs} (k : Hok h) {x : Nat} (hx : x < h.things.length) (t : Tg) (ho : t.owner = h.things[x].owner) (hf : t.items.length ≤ 50) (hli : t.list = false → t.items = []) (hv : ∀ z ∈ t.items, (0 ≤ z ∧ z < h.things.length) ∧ ((gd h.things z).owner = t.owner ∨ (gd h.things z).owner = -1)) : Hok (setTg h x t) := by
  have go : ∀ z : Int, ((h.things.set x t).getD z.toNat tgD).owner = (gd h.things z).owner := by
    intro z
    simp only [gd, List.getD_eq_getElem?_getD, List.getElem?_set]
    split
    · rename_i e
      have e' : z.toNat = x := by omega
      simp [hx, ho, e']
    · rfl
  refine ⟨k.rooms, by simpa [setTg] using k.things, fun u hu => ?_, fun u hu z hz => ?_, fun r hr => ⟨(k.queues r hr).1, fun z hz => ?_⟩, fun u hu => ?_, fun u hu hl => ?_, fun u hu z hz => ?_⟩
  · rcases List.mem_or_eq_of_mem_set hu with h1 | rfl
    · exact k.few u h1
    · exact hf
  · simp only [setTg, List.length_set]
    rcases List.mem_or_eq_of_mem_set hu with h1 | rfl
    · exact k.items u h1 z hz
    · exact (hv z hz).1
  · simp only [setTg, List.length_set]; exact (k.queues r hr).2 z hz
  · rcases List.mem_or_eq_of_mem_set hu with h1 | rfl
    · exact k.owners u h1
    · rw [ho]; exact k.owners _ (List.getElem_mem hx)
  · rcases List.mem_or_eq_of_mem_set hu with h1 | rfl
    · exact k.leaves u h1 hl
    · exact hli hl
  · simp only [setTg, Int.toNat_natCast, go]
    rcases List.mem_or_eq_of_mem_set hu with h1 | rfl
    · have := k.apart u h1 z hz; rw [gd]; exact this
    · exact (hv z hz).2
theorem Hok.reroom {h : Hs} (k : Hok h) (rs : List Rm) (hl : rs.length = h.rooms.length) (hq : ∀ r ∈ rs, r.queue.length ≤ 50 ∧ ∀ z ∈ r.queue, 0 ≤ z ∧ z < h.things.length) : Hok { h with rooms := rs } :=
  ⟨by simpa [hl] using k.rooms, k.things, k.few, k.items, hq, fun t ht => by simp only [hl]; exact k.owners t ht, k.leaves, k.apart⟩
theorem Hok.put {h : Hs} (k : Hok h) (to x : Int) (hq : (gr h.rooms to).queue.length < 50) (hx : 0 ≤ x ∧ x < h.things.length) : Hok (putOf h to x) := by
  refine k.reroom _ (by simp) fun r hr => ?_
  rcases List.mem_or_eq_of_mem_set hr with h1 | rfl
  · exact k.queues r h1
  · refine ⟨by simp only [List.length_append, List.length_singleton]; omega, fun z hz => ?_⟩
    rcases List.mem_append.1 hz with hz | hz
    · by_cases h2 : to.toNat < h.rooms.length
      · have e : gr h.rooms to = h.rooms[to.toNat] := by simp [gr, h2]
        rw [e] at hz
        exact (k.queues _ (List.getElem_mem h2)).2 z hz
      · have e : gr h.rooms to = ⟨[], false⟩ := by simp [gr, List.getElem?_eq_none (Nat.le_of_not_lt h2)]
        rw [e] at hz; cases hz
    · rw [List.mem_singleton] at hz; subst hz; exact hx
theorem ask_seen {h : Hs} {who x : Int} {l : List Int} (ha : askOf h who l = 0) (hx : x ∈ l) : (0 ≤ x ∧ x < h.things.length) ∧ ((gd h.things x).owner = who ∨ (gd h.things x).owner = -1) := by
  obtain ⟨_, h1, _, h2⟩ := askOf_r ha
  refine ⟨?_, ?_⟩
  · have := List.all_eq_true.1 h1 x hx; simpa [isT] using this
  · have := List.all_eq_true.1 h2 x hx; simpa [seesB_gd] using this
theorem good_add {h : Hs} (g : Good h) {who : Int} (hw : 0 ≤ who ∧ who < h.rooms.length) (l : Bool) (w : Int) (its : List Int) (hf : its.length ≤ 50) (hli : l = false → its = []) (hv : ∀ z ∈ its, (0 ≤ z ∧ z < h.things.length) ∧ ((gd h.things z).owner = who ∨ (gd h.things z).owner = -1)) : Good (addOf h ⟨who, l, w, its, false⟩).1 := by
  rw [addOf]
  split
  · exact g
  · rename_i hn
    refine ⟨g.ok.app (by simp; omega) fun t ht => ?_, fun t ht hl => ?_⟩
    · rw [List.mem_singleton] at ht; subst ht
      refine ⟨hf, by simp only; omega, hli, fun z hz => ⟨?_, ?_⟩⟩
      · have := (hv z hz).1; simp only [List.length_append]; omega
      · rw [gd_app (hv z hz).1]; exact (hv z hz).2
    · rcases List.mem_append.1 ht with h1 | h1
      · exact g.raw t h1 hl
      · rw [List.mem_singleton] at h1; subst h1; rfl
theorem g_leaf {h : Hs} (g : Good h) (who w : Int) : Good (leafOf h who w).1 := by
  rw [leafOf]
  split
  · exact g
  · split
    · exact g
    · rename_i h1 h2
      exact good_add g (isR_nn (askOf_r (by simpa using h2)).1) _ _ _ (by simp) (fun _ => rfl) (by simp)
theorem g_list {h : Hs} (g : Good h) (who : Int) (l : List Int) : Good (listOf h who l).1 := by
  rw [listOf]
  split
  · exact g
  · split
    · exact g
    · rename_i h1 h2
      have ha : askOf h who l = 0 := by simpa using h2
      exact good_add g (isR_nn (askOf_r ha).1) _ _ _ (by omega) (fun h => by cases h) (fun z hz => ask_seen ha hz)
theorem Raw.upd {h : Hs} (r : Raw h) (x : Int) (t : Tg) (ht : t.list = false → t.frozen = false) : Raw (setTg h x t) := by
  intro u hu hl
  rcases List.mem_or_eq_of_mem_set hu with h1 | rfl
  · exact r u h1 hl
  · exact ht hl
theorem g_set {h : Hs} (g : Good h) (who x i z : Int) : Good (setE h who x i z).1 := by
  rw [setE]
  split
  · exact g
  · split
    · exact g
    · split
      · exact g
      · rename_i h1 h2 h3
        have ha : askOf h who [x, z] = 0 := by simpa using h2
        obtain ⟨k, rfl, hk, e⟩ := gd_in (ask_seen ha (x := x) (by simp)).1
        have hs := (ask_seen ha (x := (k : Int)) (by simp)).2
        have hz := ask_seen ha (x := z) (by simp)
        have hns : ¬ (gd h.things k).owner = -1 := by
          intro hc
          simp [frozeE, notSh] at h3
          exact h3.2 hc
        have ho : (gd h.things k).owner = who := hs.resolve_right hns
        have hli : h.things[k].list = true := by
          cases hb : h.things[k].list with
          | true => rfl
          | false => exact absurd (by simp [indexOf, e, hb, isT, hk]) h1
        refine ⟨g.ok.upd hk _ (by rw [e]) (by simp only [List.length_set, e]; exact g.ok.few _ (List.getElem_mem hk)) (by simp [e, hli]) fun y hy => ?_, g.raw.upd _ _ (by simp [e, hli])⟩
        simp only at hy ⊢
        rcases List.mem_or_eq_of_mem_set hy with h4 | rfl
        · rw [e] at h4 ⊢
          exact ⟨g.ok.items _ (List.getElem_mem hk) y h4, g.ok.apart _ (List.getElem_mem hk) y h4⟩
        · rw [ho]; exact hz
theorem g_push {h : Hs} (g : Good h) (who x z : Int) : Good (pushE h who x z).1 := by
  rw [pushE]
  split
  · exact g
  · split
    · exact g
    · split
      · exact g
      · split
        · exact g
        · rename_i h1 h2 h3 h5
          have ha : askOf h who [x, z] = 0 := by simpa using h2
          obtain ⟨k, rfl, hk, e⟩ := gd_in (ask_seen ha (x := x) (by simp)).1
          have hs := (ask_seen ha (x := (k : Int)) (by simp)).2
          have hz := ask_seen ha (x := z) (by simp)
          have hns : ¬ (gd h.things k).owner = -1 := by
            intro hc
            simp [frozeE, notSh] at h3
            exact h3.2 hc
          have ho : (gd h.things k).owner = who := hs.resolve_right hns
          have hli : h.things[k].list = true := by
            cases hb : h.things[k].list with
            | true => rfl
            | false => exact absurd ⟨by simp [isT, hk], by rw [e]; exact hb⟩ h1
          refine ⟨g.ok.upd hk _ (by rw [e]) (by simp only [List.length_append, List.length_singleton]; omega) (by simp [e, hli]) fun y hy => ?_, g.raw.upd _ _ (by simp [e, hli])⟩
          simp only at hy ⊢
          rcases List.mem_append.1 hy with h4 | h4
          · rw [e] at h4 ⊢
            exact ⟨g.ok.items _ (List.getElem_mem hk) y h4, g.ok.apart _ (List.getElem_mem hk) y h4⟩
          · rw [List.mem_singleton] at h4; subst h4
            rw [ho]; exact hz
theorem g_freeze {h : Hs} (g : Good h) (who x : Int) : Good (freezeE h who x).1 := by
  rw [freezeE]
  split
  · rename_i ha
    obtain ⟨k, rfl, hk, e⟩ := gd_in (ask_seen ha (x := x) (by simp)).1
    refine ⟨g.ok.upd hk _ (by rw [e]) (by simp only [e]; exact g.ok.few _ (List.getElem_mem hk)) (by simp only [e]; exact g.ok.leaves _ (List.getElem_mem hk)) fun y hy => ?_, g.raw.upd _ _ (by simp)⟩
    simp only [e] at hy ⊢
    exact ⟨g.ok.items _ (List.getElem_mem hk) y hy, g.ok.apart _ (List.getElem_mem hk) y hy⟩
  · exact g
theorem reach_seen {h : Hs} (k : Hok h) {who : Int} {x : Int} (hx : 0 ≤ x ∧ x < h.things.length) (hs : (gd h.things x).owner = who ∨ (gd h.things x).owner = -1) : ∀ z ∈ reachA h.things x, (0 ≤ z ∧ z < h.things.length) ∧ ((gd h.things z).owner = who ∨ (gd h.things z).owner = -1) := by
  refine reachA_ind (Q := fun z => (0 ≤ z ∧ z < h.things.length) ∧ ((gd h.things z).owner = who ∨ (gd h.things z).owner = -1)) (fun y hy z hz => ?_) ⟨hx, hs⟩
  obtain ⟨j, rfl, hj, e⟩ := gd_in hy.1
  have hz' : z ∈ h.things[j].items := by rw [itemsOf_gd, e] at hz; exact hz
  have h1 := k.items _ (List.getElem_mem hj) z hz'
  have h2 := k.apart _ (List.getElem_mem hj) z hz'
  rw [e] at hy
  refine ⟨h1, ?_⟩
  rw [gd]
  rcases h2 with h2 | h2
  · rw [h2]; exact hy.2
  · exact .inr h2
theorem own_seen {h : Hs} (k : Hok h) {who : Int} {x : Nat} (hx : x < h.things.length) (hs : (gd h.things x).owner = who ∨ (gd h.things x).owner = -1) : ∀ z ∈ reachE h.things false x, (0 ≤ z ∧ z < h.things.length) ∧ (gd h.things z).owner = who := by
  intro z hz
  rw [← own_reachE k hx, ownA, List.mem_filter] at hz
  have := reach_seen k ⟨by omega, by omega⟩ hs z hz.1
  refine ⟨this.1, this.2.resolve_right ?_⟩
  simpa [notSh] using hz.2
theorem own_items {h : Hs} (k : Hok h) {x : Nat} (hx : x < h.things.length) {y : Nat} (hy : y < h.things.length) (hm : (y : Int) ∈ reachE h.things false x) : ∀ z ∈ h.things[y].items, z ∈ reachE h.things false x ∨ (gd h.things z).owner = -1 := by
  intro z hz
  rw [← own_reachE k hx, ownA, List.mem_filter] at hm ⊢
  have h1 := reachA_closed k.items (x := (x : Int)) ⟨by omega, by omega⟩ hm.1 z (by rw [itemsOf_gd, gd_at hy]; exact hz)
  by_cases ho : (gd h.things z).owner = -1
  · exact .inr ho
  · exact .inl ⟨h1, by simp [notSh, ho]⟩
theorem Raw.paint {h : Hs} (r : Raw h) (o : Int) (l : List Int) : Raw { h with things := paint (ownF o) l h.things } := by
  intro t ht hl
  obtain ⟨i, hi, rfl⟩ := List.getElem_of_mem ht
  simp only [paint_len] at hi
  rw [paint_at hi] at hl ⊢
  split at hl
  · rename_i hm; rw [if_pos hm]; exact r h.things[i] (List.getElem_mem hi) hl
  · rename_i hm; rw [if_neg hm]; exact r _ (List.getElem_mem hi) hl
theorem paint_own {o : Int} {l : List Int} {L : List Tg} {i : Nat} (hi : i < (paint (ownF o) l L).length) : ((paint (ownF o) l L)[i].items = (L[i]'(by simpa using hi)).items ∧ (paint (ownF o) l L)[i].list = (L[i]'(by simpa using hi)).list) ∧ (paint (ownF o) l L)[i].owner = if (i : Int) ∈ l then o else (L[i]'(by simpa using hi)).owner := by
  have h := paint_at (f := ownF o) (l := l) (L := L) (i := i) (by simpa using hi)
  rw [h]
  split <;> simp [ownF]
theorem g_share {h : Hs} (g : Good h) (who x : Int) : Good (shareE h who x).1 := by
  rw [shareE]
  split
  · exact g
  · split
    · exact g
    · rename_i h1 h2
      have ht : isT h x = true := by
        cases hb : isT h x with
        | true => rfl
        | false => exact absurd (.inr (.inl hb)) h1
      obtain ⟨k, rfl, hk⟩ := isT_nat ht
      refine ⟨g.ok.remap _ (by simp) (fun i hi => ?_) (fun i hi z hz hm => ?_), g.raw.paint _ _⟩
      · have hp := paint_own hi
        refine ⟨hp.1, ?_⟩
        rw [hp.2]
        have := g.ok.owners _ (List.getElem_mem (show i < h.things.length by simpa using hi))
        split <;> omega
      · have hi' : i < h.things.length := by simpa using hi
        have hz' : z < h.things.length := by simpa using hz
        rw [(paint_own hi).2, (paint_own hz).2]
        rw [(paint_own hi).1.1] at hm
        have ha := g.ok.apart _ (List.getElem_mem hi') _ hm
        have hgz : (h.things.getD (z : Int).toNat tgD) = h.things[z] := gd_at hz'
        rw [hgz] at ha
        by_cases h3 : (z : Int) ∈ reachE h.things false k
        · rw [if_pos h3]; exact .inr rfl
        · rw [if_neg h3]
          by_cases h4 : (i : Int) ∈ reachE h.things false k
          · have := own_items g.ok hk hi' h4 _ hm
            rw [gd_at hz'] at this
            exact .inr (this.resolve_left h3)
          · rw [if_neg h4]; exact ha
theorem sending_seen {h : Hs} {who to x : Int} (hs : sendingE h who to x = 0) : (gd h.things x).owner = who ∨ (gd h.things x).owner = -1 := by
  simp only [sendingE, stateOf] at hs
  split at hs
  · cases hs
  · split at hs
    · cases hs
    · split at hs
      · cases hs
      · rename_i h3
        rcases Classical.em ((gd h.things x).owner = who) with h4 | h4
        · exact .inl h4
        · right; simp [seesB_gd, h4] at h3; exact h3
theorem g_move {h : Hs} (g : Good h) (who to x : Int) : Good (moveE h who to x).1 := by
  rw [moveE]
  split
  · exact g
  · split
    · exact g
    · split
      · exact g
      · split
        · exact g
        · rename_i h1 h2 h3 h4
          have ht : isT h x = true := by
            cases hb : isT h x with
            | true => rfl
            | false => exact absurd (.inr (.inr hb)) h1
          have hto : isR h to = true := by
            cases hb : isR h to with
            | true => rfl
            | false => exact absurd (.inr (.inl hb)) h1
          have hto' := isR_nn hto
          obtain ⟨k, rfl, hk⟩ := isT_nat ht
          have hseen := sending_seen (by simpa using h3)
          have hown := own_seen g.ok hk hseen
          have hok2 : Hok { h with things := paint (ownF to) (reachE h.things false k) h.things } := by
            refine g.ok.remap _ (by simp) (fun i hi => ?_) (fun i hi z hz hm => ?_)
            · have hp := paint_own hi
              refine ⟨hp.1, ?_⟩
              rw [hp.2]
              have := g.ok.owners _ (List.getElem_mem (show i < h.things.length by simpa using hi))
              split <;> omega
            · have hi' : i < h.things.length := by simpa using hi
              have hz' : z < h.things.length := by simpa using hz
              rw [(paint_own hi).2, (paint_own hz).2]
              rw [(paint_own hi).1.1] at hm
              have ha := g.ok.apart _ (List.getElem_mem hi') _ hm
              have hgz : (h.things.getD (z : Int).toNat tgD) = h.things[z] := gd_at hz'
              rw [hgz] at ha
              by_cases h5 : (i : Int) ∈ reachE h.things false k
              · rw [if_pos h5]
                have := own_items g.ok hk hi' h5 _ hm
                rw [gd_at hz'] at this
                rcases this with h6 | h6
                · rw [if_pos h6]; exact .inl rfl
                · rw [if_neg, h6]; exact .inr rfl
                  intro h7
                  have := (hown _ h7).2
                  rw [← own_reachE g.ok hk, ownA, List.mem_filter] at h7
                  have h8 := h7.2
                  simp [notSh, hz', h6] at h8
              · rw [if_neg h5]
                by_cases h6 : (z : Int) ∈ reachE h.things false k
                · exfalso
                  have hoz := (hown _ h6).2
                  rw [gd_at hz'] at hoz
                  have hnz : ¬ h.things[z].owner = -1 := by
                    rw [← own_reachE g.ok hk, ownA, List.mem_filter] at h6
                    have h8 := h6.2
                    simpa [notSh, hz'] using h8
                  have hoi : h.things[i].owner = who := by rw [← ha.resolve_right hnz]; exact hoz
                  have hkw : (gd h.things k).owner = who := by
                    refine hseen.resolve_right fun hc => ?_
                    have h9 := hk
                    rw [← own_reachE g.ok hk, ownA, List.mem_filter] at h6
                    have := reach_seen g.ok (who := -1) (x := (k : Int)) ⟨by omega, by omega⟩ (.inl hc) _ h6.1
                    rw [gd_at hz'] at this
                    exact hnz (this.2.elim id id)
                  refine h2 ⟨hkw, ?_⟩
                  simp only [tiedOf, Bool.or_eq_true]
                  left
                  refine List.any_eq_true.2 ⟨i, List.mem_range.2 hi', ?_⟩
                  simp only [tiedAt, gd_at hi', hoi, Bool.and_eq_true]
                  refine ⟨⟨by simp, ?_⟩, ?_⟩
                  · simp only [hasN, Bool.not_eq_true', List.any_eq_false, decide_eq_true_eq]
                    exact fun a ha e => h5 (by rw [← e]; exact ha)
                  · refine List.any_eq_true.2 ⟨_, hm, ?_⟩
                    simp [hasN, h6]
                · rw [if_neg h6]; exact ha
          refine ⟨hok2.put to k (by simp only; omega) (by simp only [paint_len]; omega), fun t ht => ?_⟩
          exact g.raw.paint to _ t ht
theorem g_take {h : Hs} (g : Good h) (who : Int) : Good (takeOf h who).1 := by
  rw [takeOf]
  split
  · exact g
  · rename_i ha
    have hr := isR_nn (askOf_r (by simpa using ha)).1
    split
    · exact g
    · rename_i x q hq
      refine ⟨g.ok.reroom _ (by simp) fun r hr' => ?_, g.raw⟩
      rcases List.mem_or_eq_of_mem_set hr' with h1 | rfl
      · exact g.ok.queues r h1
      · have hw : who.toNat < h.rooms.length := by omega
        have e : gr h.rooms who = h.rooms[who.toNat] := by simp [gr, hw]
        have := g.ok.queues _ (List.getElem_mem hw)
        rw [← e, hq] at this
        exact ⟨by simp only; have := this.1; simp at this; omega, fun z hz => this.2 z (by simp [hz])⟩
theorem g_over {h : Hs} (g : Good h) (who : Int) : Good (overOf h who).1 := by
  rw [overOf]
  split
  · exact g
  · rename_i ha
    have hr := isR_nn (askOf_r (by simpa using ha)).1
    have h1 : Hok { h with things := h.things.map (goneF who) } := by
      refine g.ok.remap _ (by simp) (fun i hi => ?_) (fun i hi z hz hm => ?_)
      · have hi' : i < h.things.length := by simpa using hi
        have := g.ok.owners _ (List.getElem_mem hi')
        simp only [List.getElem_map, goneF]
        split
        · exact ⟨⟨rfl, rfl⟩, by simp only; omega⟩
        · exact ⟨⟨rfl, rfl⟩, this⟩
      · have hi' : i < h.things.length := by simpa using hi
        have hz' : z < h.things.length := by simpa using hz
        have hm' : (z : Int) ∈ h.things[i].items := by
          simp only [List.getElem_map, goneF] at hm; split at hm <;> exact hm
        have ha := g.ok.apart _ (List.getElem_mem hi') _ hm'
        have hgz : (h.things.getD (z : Int).toNat tgD) = h.things[z] := gd_at hz'
        rw [hgz] at ha
        simp only [List.getElem_map, goneF]
        rcases ha with ha | ha
        · left; rw [ha]; split <;> simp [ha]
        · right; rw [if_neg (by omega)]; exact ha
    refine ⟨h1.reroom _ (by simp) fun r hr' => ?_, fun t ht hl => ?_⟩
    · rcases List.mem_or_eq_of_mem_set hr' with h2 | rfl
      · have := g.ok.queues r h2; simpa using this
      · simp
    · obtain ⟨u, hu, rfl⟩ := List.mem_map.1 ht
      simp only [goneF] at hl ⊢
      split at hl <;> rename_i hc
      · rw [if_pos hc]; exact g.raw u hu hl
      · rw [if_neg hc]; exact g.raw u hu hl
theorem gd_app2 {L T : List Tg} {n : Nat} (hn : n < T.length) : gd (L ++ T) ((L.length : Int) + n) = T[n] := by
  have e : ((L.length : Int) + n).toNat = L.length + n := by omega
  simp only [gd, e, List.getD_eq_getElem?_getD, List.getElem?_append_right (Nat.le_add_right _ _), Nat.add_sub_cancel_left, List.getElem?_eq_getElem hn, Option.getD_some]
theorem ixE_mem {l : List Int} {z : Int} (h : z ∈ l) : ∃ n : Nat, ixE l z = n ∧ ∃ hn : n < l.length, l[n] = z := by
  have ha : l.any (fun x => decide (x = z)) = true := List.any_eq_true.2 ⟨z, h, by simp⟩
  have hn : l.findIdx (fun x => decide (x = z)) < l.length := List.findIdx_lt_length_of_exists ⟨z, h, by simp⟩
  refine ⟨_, by rw [ixE, ixF, if_pos ha], hn, ?_⟩
  simpa using List.findIdx_getElem (w := hn)
theorem ixE_out {l : List Int} {z : Int} (h : z ∉ l) : ixE l z = -1 := by
  have ha : ¬ l.any (fun x => decide (x = z)) = true := fun hc => by
    obtain ⟨y, hy, e⟩ := List.any_eq_true.1 hc
    simp at e; subst e; exact h hy
  rw [ixE, ixF, if_neg ha]
theorem g_send {h : Hs} (g : Good h) (who to x : Int) : Good (sendE h who to x).1 := by
  rw [sendE]
  split
  · exact g
  · split
    · exact g
    · split
      · exact g
      · rename_i h1 h2 h3
        have ht : isT h x = true := by
          cases hb : isT h x with
          | true => rfl
          | false => exact absurd (.inr (.inr hb)) h1
        have hto : isR h to = true := by
          cases hb : isR h to with
          | true => rfl
          | false => exact absurd (.inr (.inl hb)) h1
        have hto' := isR_nn hto
        obtain ⟨k, rfl, hk⟩ := isT_nat ht
        have hseen := sending_seen (by simpa using h2)
        have hown := own_seen g.ok hk hseen
        obtain ⟨L, hL⟩ : ∃ L, L = reachE h.things false k := ⟨_, rfl⟩
        have hit : ∀ y : Nat, (hy : y < h.things.length) → (y : Int) ∈ L → ∀ z ∈ h.things[y].items, z ∈ L ∨ (gd h.things z).owner = -1 := fun y hy hm => by rw [hL] at hm ⊢; exact own_items g.ok hk hy hm
        rw [← hL] at hown h3 ⊢
        have hsz : h.things.length + L.length ≤ 400 := by omega
        have hok2 : Hok { h with things := h.things ++ L.map fun y => copyT L h.things.length to (gd h.things y) } := by
          refine g.ok.app (by simpa using hsz) fun t ht => ?_
          obtain ⟨y, hy, rfl⟩ := List.mem_map.1 ht
          obtain ⟨j, rfl, hj, e⟩ := gd_in (hown y hy).1
          rw [e]
          refine ⟨by simp only [copyT, List.length_map]; exact g.ok.few _ (List.getElem_mem hj), by simp only [copyT]; omega, fun hl => by simp only [copyT] at hl ⊢; rw [g.ok.leaves _ (List.getElem_mem hj) hl]; rfl, fun z hz => ?_⟩
          simp only [copyT, List.mem_map] at hz
          obtain ⟨u, hu, rfl⟩ := hz
          by_cases hm : u ∈ L
          · obtain ⟨n, hn, hn', _⟩ := ixE_mem hm
            have hp : placeOf L h.things.length u = (h.things.length : Int) + n := by rw [placeOf, hn, if_pos (by omega)]
            rw [hp, gd_app2 (by simpa using hn')]
            refine ⟨by simp only [List.length_append, List.length_map]; omega, .inl ?_⟩
            simp [copyT]
          · have hp : placeOf L h.things.length u = u := by rw [placeOf, ixE_out hm]; rfl
            have hv := g.ok.items _ (List.getElem_mem hj) u hu
            rw [hp, gd_app hv]
            exact ⟨by simp only [List.length_append, List.length_map]; omega, .inr ((hit j hj hy u hu).resolve_left hm)⟩
        refine ⟨hok2.put to _ (by simp only; omega) ?_, fun t ht hl => ?_⟩
        · simp only [List.length_append, List.length_map]
          split
          · omega
          · rename_i hne
            have : 0 < L.length := List.length_pos_iff.2 hne
            omega
        · rcases List.mem_append.1 ht with h4 | h4
          · exact g.raw t h4 hl
          · obtain ⟨y, hy, rfl⟩ := List.mem_map.1 h4
            exact g.raw.gd hl
def Live (h : Hs) : Prop := ∀ t ∈ h.things, 0 ≤ t.owner → overB h t.owner = false
theorem overB_gr (h : Hs) (w : Int) : overB h w = (gr h.rooms w).over := rfl
theorem over_setq (l : List Rm) (i : Int) (q : List Int) (w : Int) : (gr (l.set i.toNat { gr l i with queue := q }) w).over = (gr l w).over := by
  simp only [gr, List.getD_eq_getElem?_getD, List.getElem?_set]
  by_cases e : i.toNat = w.toNat
  · rw [if_pos e]
    by_cases h : i.toNat < l.length
    · rw [if_pos h, e]; rfl
    · rw [if_neg h, ← e, List.getElem?_eq_none (Nat.le_of_not_lt h)]
  · rw [if_neg e]
theorem over_put (h : Hs) (to x w : Int) : overB (putOf h to x) w = overB h w := over_setq _ _ _ _
theorem Live.of {h : Hs} (l : Live h) {L : List Tg} {rs : List Rm} (hr : ∀ w, overB ⟨rs, L⟩ w = overB h w) (hL : ∀ t ∈ L, (∃ u ∈ h.things, u.owner = t.owner) ∨ (0 ≤ t.owner → overB h t.owner = false)) : Live ⟨rs, L⟩ := by
  intro t ht h0
  rw [hr]
  rcases hL t ht with ⟨u, hu, e⟩ | h
  · rw [← e] at h0 ⊢; exact l u hu h0
  · exact h h0
theorem l_add {h : Hs} (l : Live h) {t : Tg} (ht : overB h t.owner = false) : Live (addOf h t).1 := by
  rw [addOf]
  split
  · exact l
  · refine l.of (fun _ => rfl) fun u hu => ?_
    rcases List.mem_append.1 hu with h1 | h1
    · exact .inl ⟨u, h1, rfl⟩
    · rw [List.mem_singleton] at h1; subst h1; exact .inr fun _ => ht
theorem l_leaf {h : Hs} (l : Live h) (who w : Int) : Live (leafOf h who w).1 := by
  rw [leafOf]
  split
  · exact l
  · split
    · exact l
    · rename_i h1 h2
      exact l_add l (askOf_r (by simpa using h2)).2.2.1
theorem l_list {h : Hs} (l : Live h) (who : Int) (ls : List Int) : Live (listOf h who ls).1 := by
  rw [listOf]
  split
  · exact l
  · split
    · exact l
    · rename_i h1 h2
      exact l_add l (askOf_r (by simpa using h2)).2.2.1
theorem l_tg {h : Hs} (l : Live h) {x : Int} (hx : 0 ≤ x ∧ x < h.things.length) (t : Tg) (ho : t.owner = (gd h.things x).owner) : Live (setTg h x t) := by
  obtain ⟨k, rfl, hk, e⟩ := gd_in hx
  refine l.of (fun _ => rfl) fun u hu => .inl ?_
  rcases List.mem_or_eq_of_mem_set hu with h1 | rfl
  · exact ⟨u, h1, rfl⟩
  · exact ⟨h.things[k], List.getElem_mem hk, by rw [ho, e]⟩
theorem l_set {h : Hs} (l : Live h) (who x i z : Int) : Live (setE h who x i z).1 := by
  rw [setE]
  split
  · exact l
  · split
    · exact l
    · split
      · exact l
      · rename_i h1 h2 h3
        exact l_tg l (ask_seen (by simpa using h2) (x := x) (by simp)).1 _ rfl
theorem l_push {h : Hs} (l : Live h) (who x z : Int) : Live (pushE h who x z).1 := by
  rw [pushE]
  split
  · exact l
  · split
    · exact l
    · split
      · exact l
      · split
        · exact l
        · rename_i h1 h2 h3 h4
          exact l_tg l (ask_seen (by simpa using h2) (x := x) (by simp)).1 _ rfl
theorem l_freeze {h : Hs} (l : Live h) (who x : Int) : Live (freezeE h who x).1 := by
  rw [freezeE]
  split
  · rename_i ha
    exact l_tg l (ask_seen ha (x := x) (by simp)).1 _ rfl
  · exact l
theorem l_paint {h : Hs} (l : Live h) {o : Int} (ho : 0 ≤ o → overB h o = false) (m : List Int) : Live { h with things := paint (ownF o) m h.things } := by
  refine l.of (fun _ => rfl) fun u hu => ?_
  obtain ⟨i, hi, rfl⟩ := List.getElem_of_mem hu
  have hp := (paint_own hi).2
  split at hp
  · right; rw [hp]; exact ho
  · left; exact ⟨_, List.getElem_mem (by simpa using hi), hp.symm⟩
theorem l_share {h : Hs} (l : Live h) (who x : Int) : Live (shareE h who x).1 := by
  rw [shareE]
  split
  · exact l
  · split
    · exact l
    · exact l_paint l (fun h => by omega) _
theorem sending_over {h : Hs} {who to x : Int} (hs : sendingE h who to x = 0) : overB h to = false ∧ overB h who = false := by
  simp only [sendingE, stateOf] at hs
  split at hs
  · cases hs
  · split at hs
    · cases hs
    · rename_i h1 h2
      exact ⟨by simpa using h1, by simpa using h2⟩
theorem l_put {h : Hs} (l : Live h) (to x : Int) : Live (putOf h to x) := l.of (fun w => over_put h to x w) fun u hu => .inl ⟨u, hu, rfl⟩
theorem l_move {h : Hs} (l : Live h) (who to x : Int) : Live (moveE h who to x).1 := by
  rw [moveE]
  split
  · exact l
  · split
    · exact l
    · split
      · exact l
      · split
        · exact l
        · rename_i h1 h2 h3 h4
          exact l_put (l_paint l (fun _ => (sending_over (by simpa using h3)).1) _) _ _
theorem l_take {h : Hs} (l : Live h) (who : Int) : Live (takeOf h who).1 := by
  rw [takeOf]
  split
  · exact l
  · split
    · exact l
    · exact l.of (fun w => over_setq _ _ _ _) fun u hu => .inl ⟨u, hu, rfl⟩
theorem l_over {h : Hs} (l : Live h) (who : Int) : Live (overOf h who).1 := by
  rw [overOf]
  split
  · exact l
  · rename_i ha
    have hr := isR_nn (askOf_r (by simpa using ha)).1
    intro t ht h0
    obtain ⟨u, hu, rfl⟩ := List.mem_map.1 ht
    simp only [goneF] at h0 ⊢
    by_cases ho : u.owner = who
    · simp [ho] at h0
    · rw [if_neg ho] at h0 ⊢
      have := l u hu h0
      rw [overB_gr] at this ⊢
      simp only [gr, List.getD_eq_getElem?_getD, List.getElem?_set] at this ⊢
      rw [if_neg (by omega)]; exact this
theorem l_send {h : Hs} (l : Live h) (who to x : Int) : Live (sendE h who to x).1 := by
  rw [sendE]
  split
  · exact l
  · split
    · exact l
    · split
      · exact l
      · rename_i h1 h2 h3
        refine l_put (h := { h with things := _ }) ?_ _ _
        refine l.of (rs := h.rooms) (fun _ => rfl) fun u hu => ?_
        rcases List.mem_append.1 hu with h4 | h4
        · exact .inl ⟨u, h4, rfl⟩
        · obtain ⟨y, hy, rfl⟩ := List.mem_map.1 h4
          have h5 : sendingE h who to x = 0 := by simpa using h2
          exact .inr fun _ => (sending_over h5).1
structure Fine (n : Nat) (h : Hs) : Prop where
  good : Good h
  live : Live h
  rooms : h.rooms.length = n
theorem rooms_add (h : Hs) (t : Tg) : (addOf h t).1.rooms = h.rooms := by rw [addOf]; split <;> rfl
theorem f_leaf {n : Nat} {h : Hs} (f : Fine n h) (who w : Int) : Fine n (leafOf h who w).1 := ⟨g_leaf f.good _ _, l_leaf f.live _ _, by
  rw [leafOf]; split
  · exact f.rooms
  · split
    · exact f.rooms
    · rw [rooms_add]; exact f.rooms⟩
theorem f_list {n : Nat} {h : Hs} (f : Fine n h) (who : Int) (l : List Int) : Fine n (listOf h who l).1 := ⟨g_list f.good _ _, l_list f.live _ _, by
  rw [listOf]; split
  · exact f.rooms
  · split
    · exact f.rooms
    · rw [rooms_add]; exact f.rooms⟩
theorem f_set {n : Nat} {h : Hs} (f : Fine n h) (who x i z : Int) : Fine n (setE h who x i z).1 := ⟨g_set f.good _ _ _ _, l_set f.live _ _ _ _, by
  rw [setE]; repeat' split
  all_goals exact f.rooms⟩
theorem f_push {n : Nat} {h : Hs} (f : Fine n h) (who x z : Int) : Fine n (pushE h who x z).1 := ⟨g_push f.good _ _ _, l_push f.live _ _ _, by
  rw [pushE]; repeat' split
  all_goals exact f.rooms⟩
theorem f_freeze {n : Nat} {h : Hs} (f : Fine n h) (who x : Int) : Fine n (freezeE h who x).1 := ⟨g_freeze f.good _ _, l_freeze f.live _ _, by
  rw [freezeE]; repeat' split
  all_goals exact f.rooms⟩
theorem f_share {n : Nat} {h : Hs} (f : Fine n h) (who x : Int) : Fine n (shareE h who x).1 := ⟨g_share f.good _ _, l_share f.live _ _, by
  rw [shareE]; repeat' split
  all_goals exact f.rooms⟩
theorem f_send {n : Nat} {h : Hs} (f : Fine n h) (who to x : Int) : Fine n (sendE h who to x).1 := ⟨g_send f.good _ _ _, l_send f.live _ _ _, by
  rw [sendE]; repeat' split
  all_goals first | exact f.rooms | (simp only [putOf, setRm, List.length_set]; exact f.rooms)⟩
theorem f_move {n : Nat} {h : Hs} (f : Fine n h) (who to x : Int) : Fine n (moveE h who to x).1 := ⟨g_move f.good _ _ _, l_move f.live _ _ _, by
  rw [moveE]; repeat' split
  all_goals first | exact f.rooms | (simp only [putOf, setRm, List.length_set]; exact f.rooms)⟩
theorem f_take {n : Nat} {h : Hs} (f : Fine n h) (who : Int) : Fine n (takeOf h who).1 := ⟨g_take f.good _, l_take f.live _, by
  rw [takeOf]; repeat' split
  all_goals first | exact f.rooms | (simp only [setRm, List.length_set]; exact f.rooms)⟩
theorem f_over {n : Nat} {h : Hs} (f : Fine n h) (who : Int) : Fine n (overOf h who).1 := ⟨g_over f.good _, l_over f.live _, by
  rw [overOf]; repeat' split
  all_goals first | exact f.rooms | (simp only [List.length_set]; exact f.rooms)⟩
def bornE (n : Nat) : Hs := ⟨List.replicate n ⟨[], false⟩, []⟩
theorem f_born {n : Nat} (h : n ≤ 8) : Fine n (bornE n) := by
  refine ⟨⟨⟨by simpa [bornE] using h, by simp [bornE], by simp [bornE], fun t ht => by simp [bornE] at ht, fun r hr => ?_, by simp [bornE], by simp [bornE], by simp [bornE]⟩, fun t ht => by simp [bornE] at ht⟩, fun t ht => by simp [bornE] at ht, by simp [bornE]⟩
  simp only [bornE, List.mem_replicate] at hr
  rw [hr.2]; simp
structure Ld where
  d : Int
  who : Int
  a : Int
  b : Int
  c : Int
  l : List Int
def doE (h : Hs) (d : Ld) : Hs × Int × Int :=
  if d.d = 0 then leafOf h d.who d.a else if d.d = 1 then listOf h d.who d.l
  else if d.d = 2 then ((setE h d.who d.a d.b d.c).1, 0, (setE h d.who d.a d.b d.c).2)
  else if d.d = 3 then ((pushE h d.who d.a d.b).1, 0, (pushE h d.who d.a d.b).2)
  else if d.d = 4 then ((freezeE h d.who d.a).1, 0, (freezeE h d.who d.a).2)
  else if d.d = 5 then ((shareE h d.who d.a).1, 0, (shareE h d.who d.a).2)
  else if d.d = 6 then sendE h d.who d.a d.b
  else if d.d = 7 then ((moveE h d.who d.a d.b).1, 0, (moveE h d.who d.a d.b).2)
  else if d.d = 8 then takeOf h d.who
  else if d.d = 9 then ((overOf h d.who).1, 0, (overOf h d.who).2)
  else (h, 0, 0)
theorem f_do {n : Nat} {h : Hs} (f : Fine n h) (d : Ld) : Fine n (doE h d).1 := by
  rw [doE]
  by_cases h0 : d.d = 0
  · rw [if_pos h0]; exact f_leaf f _ _
  rw [if_neg h0]
  by_cases h1 : d.d = 1
  · rw [if_pos h1]; exact f_list f _ _
  rw [if_neg h1]
  by_cases h2 : d.d = 2
  · rw [if_pos h2]; exact f_set f _ _ _ _
  rw [if_neg h2]
  by_cases h3 : d.d = 3
  · rw [if_pos h3]; exact f_push f _ _ _
  rw [if_neg h3]
  by_cases h4 : d.d = 4
  · rw [if_pos h4]; exact f_freeze f _ _
  rw [if_neg h4]
  by_cases h5 : d.d = 5
  · rw [if_pos h5]; exact f_share f _ _
  rw [if_neg h5]
  by_cases h6 : d.d = 6
  · rw [if_pos h6]; exact f_send f _ _ _
  rw [if_neg h6]
  by_cases h7 : d.d = 7
  · rw [if_pos h7]; exact f_move f _ _ _
  rw [if_neg h7]
  by_cases h8 : d.d = 8
  · rw [if_pos h8]; exact f_take f _
  rw [if_neg h8]
  by_cases h9 : d.d = 9
  · rw [if_pos h9]; exact f_over f _
  rw [if_neg h9]; exact f
theorem mem_left0 {L : List Tg} {out : List Int} {y : Int} (h : left L out = 0) (hy : 0 ≤ y ∧ y < L.length) : y ∈ out := by
  refine Classical.byContradiction fun hn => ?_
  have := left_lt L hy hn
  omega
theorem rV_map {L L' : List Tg} (φ : Int → Int) (Q : Int → Prop) (hv : ∀ y, Q y → 0 ≤ y ∧ y < L.length) (hc : ∀ y, Q y → ∀ z ∈ itemsOf L y, Q z) (hi : ∀ y, Q y → itemsOf L' (φ y) = (itemsOf L y).map φ)
    (hinj : ∀ y z, Q y → Q z → φ y = φ z → y = z) : ∀ (n m : Nat) (out : List Int) (y : Int), left L out ≤ n → left L out ≤ m → (∀ z ∈ out, Q z) → Q y →
      rV (fun _ => true) L' m (out.map φ) (φ y) = (rV (fun _ => true) L n out y).map φ ∧ ∀ z ∈ rV (fun _ => true) L n out y, Q z
  | 0, m, out, y, hn, _, ho, hy => by
    have hm : y ∈ out := mem_left0 (by omega) (hv y hy)
    refine ⟨?_, ho⟩
    rw [rV_in _ hm, rV_in _ (List.mem_map_of_mem hm)]
  | n + 1, 0, out, y, _, hm0, ho, hy => by
    have hm : y ∈ out := mem_left0 (by omega) (hv y hy)
    rw [rV_in _ hm, rV_in _ (List.mem_map_of_mem hm)]
    exact ⟨rfl, ho⟩
  | n + 1, m + 1, out, y, hn, hm, ho, hy => by
    by_cases hin : y ∈ out
    · rw [rV_in _ hin, rV_in _ (List.mem_map_of_mem hin)]
      exact ⟨rfl, ho⟩
    · have hin' : ¬ φ y ∈ out.map φ := fun h => by
        obtain ⟨z, hz, e⟩ := List.mem_map.1 h
        exact hin (hinj z y (ho z hz) hy e ▸ hz)
      have hlt := left_lt L (hv y hy) hin
      have hf : ∀ (l : List Int), (∀ z ∈ l, Q z) → ∀ o : List Int, left L o ≤ n → left L o ≤ m → (∀ z ∈ o, Q z) →
          (l.map φ).foldl (rV (fun _ => true) L' m) (o.map φ) = (l.foldl (rV (fun _ => true) L n) o).map φ ∧ ∀ z ∈ l.foldl (rV (fun _ => true) L n) o, Q z := by
        intro l
        induction l with
        | nil => exact fun _ o _ _ ho => ⟨rfl, ho⟩
        | cons a l ih =>
          intro hl o h1 h2 ho
          obtain ⟨e1, q1⟩ := rV_map φ Q hv hc hi hinj n m o a h1 h2 ho (hl a (by simp))
          have hle := left_le L (o := o) (o' := rV (fun _ => true) L n o a) fun z h => rV_mem _ L n _ _ _ h
          obtain ⟨e2, q2⟩ := ih (fun z h => hl z (by simp [h])) (rV (fun _ => true) L n o a) (by omega) (by omega) q1
          rw [List.map_cons, List.foldl_cons, List.foldl_cons, e1]
          exact ⟨e2, q2⟩
      obtain ⟨e, q⟩ := hf (itemsOf L y) (hc y hy) (out ++ [y]) (by omega) (by omega) (fun z hz => by
        rcases List.mem_append.1 hz with h | h
        · exact ho z h
        · rw [List.mem_singleton] at h; subst h; exact hy)
      have e1 : rV (fun _ => true) L (n + 1) out y = (itemsOf L y).foldl (rV (fun _ => true) L n) (out ++ [y]) := by simp [rV, hin]
      have e2 : rV (fun _ => true) L' (m + 1) (out.map φ) (φ y) = (itemsOf L' (φ y)).foldl (rV (fun _ => true) L' m) (out.map φ ++ [φ y]) := by
        rw [rV, if_neg (by simpa using hin')]
      rw [e1, e2, hi y hy]
      rw [List.map_append] at e
      exact ⟨e, q⟩
theorem reach_map {L L' : List Tg} (φ : Int → Int) (Q : Int → Prop) (hv : ∀ y, Q y → 0 ≤ y ∧ y < L.length) (hc : ∀ y, Q y → ∀ z ∈ itemsOf L y, Q z) (hi : ∀ y, Q y → itemsOf L' (φ y) = (itemsOf L y).map φ)
    (hinj : ∀ y z, Q y → Q z → φ y = φ z → y = z) (hl : L.length ≤ L'.length) {x : Int} (hx : Q x) : reachA L' (φ x) = (reachA L x).map φ ∧ ∀ z ∈ reachA L x, Q z := by
  have := rV_map φ Q hv hc hi hinj L.length L'.length [] x (by rw [left_nil]; exact Nat.le_refl _) (by rw [left_nil]; exact hl) (fun z h => by cases h) hx
  simpa [reachA] using this
theorem ixE_map {φ : Int → Int} {l : List Int} {z : Int} (h : ∀ y ∈ l, φ y = φ z → y = z) : ixE (l.map φ) (φ z) = ixE l z := by
  have e : ∀ m : List Int, (∀ y ∈ m, φ y = φ z → y = z) → (m.map φ).any (fun x => decide (x = φ z)) = m.any (fun x => decide (x = z)) ∧ (m.map φ).findIdx (fun x => decide (x = φ z)) = m.findIdx (fun x => decide (x = z)) := by
    intro m
    induction m with
    | nil => exact fun _ => ⟨rfl, rfl⟩
    | cons a m ih =>
      intro hm
      obtain ⟨i1, i2⟩ := ih fun y hy => hm y (by simp [hy])
      have ea : decide (φ a = φ z) = decide (a = z) := by
        by_cases h1 : a = z
        · simp [h1]
        · have : ¬ φ a = φ z := fun h2 => h1 (hm a (by simp) h2)
          simp [h1, this]
      simp only [List.map_cons, List.any_cons, List.findIdx_cons, ea, i1, i2]
      exact ⟨trivial, trivial⟩
  obtain ⟨e1, e2⟩ := e l h
  simp only [ixE, ixF, e1, e2]
theorem cells_map {L L' : List Tg} (φ : Int → Int) (Q : Int → Prop) (hv : ∀ y, Q y → 0 ≤ y ∧ y < L.length) (hc : ∀ y, Q y → ∀ z ∈ itemsOf L y, Q z) (hi : ∀ y, Q y → itemsOf L' (φ y) = (itemsOf L y).map φ)
    (hinj : ∀ y z, Q y → Q z → φ y = φ z → y = z) (hl : L.length ≤ L'.length) (hk : ∀ y, Q y → (gd L' (φ y)).list = (gd L y).list ∧ (gd L' (φ y)).word = (gd L y).word) {x : Int} (hx : Q x) :
    ((reachA L' (φ x)).map fun y => cellOf (reachA L' (φ x)) (gd L' y)) = (reachA L x).map fun y => cellOf (reachA L x) (gd L y) := by
  obtain ⟨e, q⟩ := reach_map φ Q hv hc hi hinj hl hx
  rw [e, List.map_map]
  refine List.map_congr_left fun y hy => ?_
  obtain ⟨k1, k2⟩ := hk y (q y hy)
  have e3 := hi y (q y hy)
  rw [itemsOf_gd, itemsOf_gd] at e3
  simp only [Function.comp, cellOf, k1, k2, e3, List.map_map]
  split
  · congr 1
    refine List.map_congr_left fun z hz => ?_
    have hqz := hc y (q y hy) z (by rw [itemsOf_gd]; exact hz)
    exact ixE_map fun u hu hh => hinj u z (q u hu) hqz hh
  · rfl
theorem cells_same {L L' : List Tg} (Q : Int → Prop) (hv : ∀ y, Q y → 0 ≤ y ∧ y < L.length) (hc : ∀ y, Q y → ∀ z ∈ itemsOf L y, Q z) (hl : L.length ≤ L'.length)
    (hk : ∀ y, Q y → (gd L' y).items = (gd L y).items ∧ (gd L' y).list = (gd L y).list ∧ (gd L' y).word = (gd L y).word) {x : Int} (hx : Q x) :
    ((reachA L' x).map fun y => cellOf (reachA L' x) (gd L' y)) = (reachA L x).map fun y => cellOf (reachA L x) (gd L y) :=
  cells_map (fun y => y) Q hv hc (fun y hy => by rw [itemsOf_gd, itemsOf_gd, (hk y hy).1, List.map_id']) (fun _ _ _ _ h => h) hl (fun y hy => (hk y hy).2) hx
theorem isR_of {h : Hs} {w : Int} (hw : 0 ≤ w ∧ w < h.rooms.length) : isR h w = true := by simpa [isR] using hw
theorem isT_of {h : Hs} {x : Int} (hx : 0 ≤ x ∧ x < h.things.length) : isT h x = true := by simpa [isT] using hx
theorem ask_ok1 {h : Hs} {w x : Int} (hw : 0 ≤ w ∧ w < h.rooms.length) (hx : 0 ≤ x ∧ x < h.things.length) (ho : overB h w = false) (hs : (gd h.things x).owner = w ∨ (gd h.things x).owner = -1) : askOf h w [x] = 0 := by
  have : seesB h w x = true := by simpa [seesB_gd] using hs
  simp [askOf, isR_of hw, isT_of hx, ho, this]
theorem graph_of {h : Hs} {w x : Int} (ha : askOf h w [x] = 0) : graphOf h w x = ((reachA h.things x).map fun y => cellOf (reachA h.things x) (gd h.things y), 0) := by
  rw [graphOf, if_neg (by simp [ha])]
theorem send_zero {h : Hs} {who to x : Int} (hz : (sendE h who to x).2.2 = 0) : isR h who = true ∧ isR h to = true ∧ isT h x = true ∧ sendingE h who to x = 0 ∧ (gr h.rooms to).queue.length < 50 ∧ h.things.length + (reachE h.things false x).length ≤ 400 ∧
    sendE h who to x = (putOf { h with things := h.things ++ (reachE h.things false x).map fun y => copyT (reachE h.things false x) h.things.length to (gd h.things y) } to (if reachE h.things false x = [] then x else (h.things.length : Int)),
      if reachE h.things false x = [] then x else (h.things.length : Int), 0) := by
  rw [sendE] at hz ⊢
  split at hz
  · cases hz
  · rename_i h1
    split at hz
    · rename_i h2; exact absurd hz h2
    · rename_i h2
      split at hz
      · cases hz
      · rename_i h3
        have a1 : isR h who = true := by cases hb : isR h who <;> simp_all
        have a2 : isR h to = true := by cases hb : isR h to <;> simp_all
        have a3 : isT h x = true := by cases hb : isT h x <;> simp_all
        refine ⟨a1, a2, a3, by simpa using h2, by omega, by omega, ?_⟩
        rw [if_neg h1, if_neg h2, if_neg h3]
theorem send_graph {n : Nat} {h : Hs} (f : Fine n h) {who to x : Int} (hz : (sendE h who to x).2.2 = 0) (hns : ¬ (gd h.things x).owner = -1) (ha : askOf h who [x] = 0) :
    graphOf (sendE h who to x).1 to (sendE h who to x).2.1 = graphOf h who x ∧ graphOf (sendE h who to x).1 who x = graphOf h who x ∧ ¬ (sendE h who to x).2.1 = x ∧ (graphOf h who x).2 = 0 := by
  obtain ⟨h1, h2, h3, h4, h5, h6, e⟩ := send_zero hz
  obtain ⟨k, rfl, hk⟩ := isT_nat h3
  have hto := isR_nn h2
  have hwho := isR_nn h1
  have hxv : (0 : Int) ≤ (k : Int) ∧ (k : Int) < h.things.length := ⟨by omega, by omega⟩
  have hov := sending_over h4
  have hseen := sending_seen h4
  have hown := own_seen f.good.ok hk hseen
  have hreach := reach_seen f.good.ok hxv hseen
  have hne : ¬ reachE h.things false (k : Int) = [] := by
    intro hc
    have := reachA_self f.good.ok.items hxv
    have hm : (k : Int) ∈ ownA h.things k := List.mem_filter.2 ⟨this, by simp [notSh, hns]⟩
    rw [own_reachE f.good.ok hk, hc] at hm; cases hm
  obtain ⟨l, hl⟩ := (reachE_head hk).resolve_left hne
  rw [if_neg hne] at e
  obtain ⟨L, hL⟩ : ∃ L, L = reachE h.things false (k : Int) := ⟨_, rfl⟩
  rw [← hL] at e h6 hown hne hl
  have hmemL : ∀ y, y ∈ reachA h.things (k : Int) → (y ∈ L ↔ ¬ (gd h.things y).owner = -1) := by
    intro y hy
    rw [hL, ← own_reachE f.good.ok hk, ownA, List.mem_filter]
    simp [hy, notSh]
  obtain ⟨T, hT⟩ : ∃ T, T = L.map fun y => copyT L h.things.length to (gd h.things y) := ⟨_, rfl⟩
  have hTl : T.length = L.length := by simp [hT]
  rw [← hT] at e
  have hplace : ∀ y, y ∈ L → ∃ i : Nat, placeOf L h.things.length y = (h.things.length : Int) + i ∧ ∃ hi : i < L.length, L[i] = y := by
    intro y hy
    obtain ⟨i, h1, hi, h2⟩ := ixE_mem hy
    exact ⟨i, by rw [placeOf, h1, if_pos (by omega)], hi, h2⟩
  have hstay : ∀ y, y ∉ L → placeOf L h.things.length y = y := fun y hy => by rw [placeOf, ixE_out hy]; rfl
  have hfst : placeOf L h.things.length k = h.things.length := by rw [hl]; simp [placeOf, ixE, ixF, List.findIdx_cons]
  have hlen : h.things.length ≤ (h.things ++ T).length := by simp
  have hcells := cells_map (L := h.things) (L' := h.things ++ T) (placeOf L h.things.length) (fun y => y ∈ reachA h.things (k : Int)) (fun y hy => (hreach y hy).1) (fun y hy => reachA_closed f.good.ok.items hxv hy)
    (fun y hy => by
      obtain ⟨j, hj, hj2, ej⟩ := gd_in (hreach y hy).1
      by_cases hm : y ∈ L
      · obtain ⟨i, h1, hi, h2⟩ := hplace y hm
        rw [h1, itemsOf_gd, gd_app2 (by omega), itemsOf_gd]
        simp only [hT, List.getElem_map, h2, copyT]
      · rw [hstay y hm, itemsOf_gd, gd_app (hreach y hy).1, itemsOf_gd]
        have hsh : (gd h.things y).owner = -1 := Classical.byContradiction fun hc => hm ((hmemL y hy).2 hc)
        have hid : ∀ z ∈ (gd h.things y).items, placeOf L h.things.length z = z := by
          intro z hz
          refine hstay z fun hzL => ?_
          have hz' : z ∈ itemsOf h.things y := hz
          have h7 := f.good.ok.sharedIn y (by simp [notSh, hsh]) z hz'
          exact ((hmemL z (reachA_closed f.good.ok.items hxv hy z hz')).1 hzL) (by simpa [notSh] using h7)
        exact (List.map_congr_left hid).trans (List.map_id _) |>.symm)
    (fun y z hy hz hyz => by
      have vy := (hreach y hy).1
      have vz := (hreach z hz).1
      by_cases my : y ∈ L
      · obtain ⟨i, p1, hi, p2⟩ := hplace y my
        by_cases mz : z ∈ L
        · obtain ⟨j, q1, hj, q2⟩ := hplace z mz
          rw [p1, q1] at hyz
          have : i = j := by omega
          subst this
          rw [← p2, ← q2]
        · rw [p1, hstay z mz] at hyz; omega
      · by_cases mz : z ∈ L
        · obtain ⟨j, q1, hj, q2⟩ := hplace z mz
          rw [q1, hstay y my] at hyz; omega
        · rwa [hstay y my, hstay z mz] at hyz)
    hlen
    (fun y hy => by
      by_cases hm : y ∈ L
      · obtain ⟨i, h1, hi, h2⟩ := hplace y hm
        rw [h1, gd_app2 (by omega)]
        simp only [hT, List.getElem_map, h2, copyT]; exact ⟨trivial, trivial⟩
      · rw [hstay y hm, gd_app (hreach y hy).1]; exact ⟨rfl, rfl⟩)
    (reachA_self f.good.ok.items hxv)
  rw [hfst] at hcells
  have hsame := cells_same (L := h.things) (L' := h.things ++ T) (fun y => y ∈ reachA h.things (k : Int)) (fun y hy => (hreach y hy).1) (fun y hy => reachA_closed f.good.ok.items hxv hy) hlen
    (fun y hy => by rw [gd_app (hreach y hy).1]; exact ⟨rfl, rfl, rfl⟩) (reachA_self f.good.ok.items hxv)
  rw [e]
  dsimp only
  have hLpos : 0 < L.length := List.length_pos_iff.2 hne
  have hth : (putOf { h with things := h.things ++ T } to h.things.length).things = h.things ++ T := rfl
  have hrm : (putOf { h with things := h.things ++ T } to h.things.length).rooms.length = h.rooms.length := by simp [putOf, setRm]
  have hov' : ∀ w, overB (putOf { h with things := h.things ++ T } to h.things.length) w = overB h w := fun w => over_put _ _ _ _
  refine ⟨?_, ?_, by omega, by rw [graph_of ha]⟩
  · rw [graph_of ha, graph_of (ask_ok1 (by omega) (by rw [hth]; simp only [List.length_append]; omega) (by rw [hov']; exact hov.1) (.inl ?_)), hth]
    · rw [hcells]
    · rw [hth]
      have h0 : gd (h.things ++ T) (h.things.length : Int) = T[0] := by
        have := gd_app2 (L := h.things) (T := T) (n := 0) (by omega)
        simpa using this
      rw [h0]
      simp only [hT, List.getElem_map, copyT]
  · rw [graph_of ha, graph_of (ask_ok1 (by omega) (by rw [hth]; simp only [List.length_append]; omega) (by rw [hov']; exact hov.2) (by rw [hth, gd_app hxv]; exact hseen)), hth, hsame]
theorem move_zero {h : Hs} {who to x : Int} (hz : (moveE h who to x).2 = 0) : isR h who = true ∧ isR h to = true ∧ isT h x = true ∧ sendingE h who to x = 0 ∧
    moveE h who to x = (putOf { h with things := paint (ownF to) (reachE h.things false x) h.things } to x, 0) := by
  rw [moveE] at hz ⊢
  split at hz
  · cases hz
  · rename_i h1
    split at hz
    · cases hz
    · rename_i h2
      split at hz
      · rename_i h3; exact absurd hz h3
      · rename_i h3
        split at hz
        · cases hz
        · rename_i h4
          have a1 : isR h who = true := by cases hb : isR h who <;> simp_all
          have a2 : isR h to = true := by cases hb : isR h to <;> simp_all
          have a3 : isT h x = true := by cases hb : isT h x <;> simp_all
          refine ⟨a1, a2, a3, by simpa using h3, ?_⟩
          rw [if_neg h1, if_neg h2, if_neg h3, if_neg h4]
theorem paint_gd {o : Int} {l : List Int} {L : List Tg} {y : Int} (hy : 0 ≤ y ∧ y < L.length) : ((gd (paint (ownF o) l L) y).items = (gd L y).items ∧ (gd (paint (ownF o) l L) y).list = (gd L y).list ∧ (gd (paint (ownF o) l L) y).word = (gd L y).word) ∧
    (gd (paint (ownF o) l L) y).owner = if y ∈ l then o else (gd L y).owner := by
  obtain ⟨j, rfl, hj, e⟩ := gd_in hy
  have hj' : j < (paint (ownF o) l L).length := by simpa using hj
  have := paint_at (f := ownF o) (l := l) hj
  rw [gd_at hj', e, this]
  split <;> simp [ownF]
theorem move_graph {n : Nat} {h : Hs} (f : Fine n h) {who to x : Int} (hz : (moveE h who to x).2 = 0) (hns : ¬ (gd h.things x).owner = -1) (ha : askOf h who [x] = 0) :
    graphOf (moveE h who to x).1 to x = graphOf h who x ∧ (¬ who = to → (graphOf (moveE h who to x).1 who x).2 = 3) := by
  obtain ⟨h1, h2, h3, h4, e⟩ := move_zero hz
  obtain ⟨k, rfl, hk⟩ := isT_nat h3
  have hto := isR_nn h2
  have hwho := isR_nn h1
  have hxv : (0 : Int) ≤ (k : Int) ∧ (k : Int) < h.things.length := ⟨by omega, by omega⟩
  have hov := sending_over h4
  have hseen := sending_seen h4
  have hreach := reach_seen f.good.ok hxv hseen
  have hm : (k : Int) ∈ reachE h.things false (k : Int) := by
    rw [← own_reachE f.good.ok hk]
    exact List.mem_filter.2 ⟨reachA_self f.good.ok.items hxv, by simp [notSh, hns]⟩
  rw [e]
  dsimp only
  obtain ⟨P, hP⟩ : ∃ P, P = paint (ownF to) (reachE h.things false (k : Int)) h.things := ⟨_, rfl⟩
  have hPl : P.length = h.things.length := by simp [hP]
  have hpg : ∀ y, 0 ≤ y ∧ y < (h.things.length : Int) → _ := fun y hy => paint_gd (o := to) (l := reachE h.things false (k : Int)) (L := h.things) (y := y) hy
  rw [← hP] at hpg ⊢
  have hth : (putOf { h with things := P } to (k : Int)).things = P := rfl
  have hrm : (putOf { h with things := P } to (k : Int)).rooms.length = h.rooms.length := by simp [putOf, setRm]
  have hov' : ∀ w, overB (putOf { h with things := P } to (k : Int)) w = overB h w := fun w => over_put _ _ _ _
  have hko : (gd P (k : Int)).owner = to := by rw [(hpg k hxv).2, if_pos hm]
  have hsame := cells_same (L := h.things) (L' := P) (fun y => y ∈ reachA h.things (k : Int)) (fun y hy => (hreach y hy).1) (fun y hy => reachA_closed f.good.ok.items hxv hy) (by omega)
    (fun y hy => (hpg y (hreach y hy).1).1) (reachA_self f.good.ok.items hxv)
  refine ⟨?_, fun hne => ?_⟩
  · rw [graph_of ha, graph_of (ask_ok1 (by omega) (by rw [hth]; omega) (by rw [hov']; exact hov.1) (.inl (by rw [hth]; exact hko))), hth, hsame]
  · have hs : seesB (putOf { h with things := P } to (k : Int)) who k = false := by
      simp only [seesB_gd, hth, hko, decide_eq_false_iff_not]
      omega
    have h5 : isR (putOf { h with things := P } to (k : Int)) who = true := isR_of (by omega)
    have h6 : isT (putOf { h with things := P } to (k : Int)) k = true := isT_of (by rw [hth]; omega)
    have ha2 : askOf (putOf { h with things := P } to (k : Int)) who [(k : Int)] = 3 := by simp [askOf, h5, h6, hov', hov.2, hs]
    rw [graphOf, if_pos (by simp [ha2])]
    exact ha2
structure Stay (h h' : Hs) : Prop where
  more : h.things.length ≤ h'.things.length
  rooms : h'.rooms.length = h.rooms.length
  same : ∀ y, 0 ≤ y ∧ y < (h.things.length : Int) → (gd h.things y).owner = -1 → (gd h'.things y).owner = -1 ∧ (gd h'.things y).items = (gd h.things y).items ∧ (gd h'.things y).list = (gd h.things y).list ∧ (gd h'.things y).word = (gd h.things y).word
theorem Stay.rfl {h : Hs} : Stay h h := ⟨Nat.le_refl _, Eq.refl _, fun _ _ ho => ⟨ho, Eq.refl _, Eq.refl _, Eq.refl _⟩⟩
theorem Stay.trans {a b c : Hs} (h : Stay a b) (k : Stay b c) : Stay a c := ⟨Nat.le_trans h.more k.more, k.rooms.trans h.rooms, fun y hy ho => by
  obtain ⟨h1, h2, h3, h4⟩ := h.same y hy ho
  have := h.more
  obtain ⟨k1, k2, k3, k4⟩ := k.same y (by omega) h1
  exact ⟨k1, k2.trans h2, k3.trans h3, k4.trans h4⟩⟩
theorem s_app {h : Hs} (T : List Tg) (rs : List Rm) (hr : rs.length = h.rooms.length) : Stay h ⟨rs, h.things ++ T⟩ := ⟨by simp, hr, fun y hy ho => by
  simp only [gd_app hy]; exact ⟨ho, trivial, trivial, trivial⟩⟩
theorem s_add (h : Hs) (t : Tg) : Stay h (addOf h t).1 := by
  rw [addOf]; split
  · exact .rfl
  · exact s_app _ _ (Eq.refl _)
theorem s_tg {h : Hs} {x : Int} (t : Tg) (hx : 0 ≤ x) (ht : (gd h.things x).owner = -1 → t.owner = -1 ∧ t.items = (gd h.things x).items ∧ t.list = (gd h.things x).list ∧ t.word = (gd h.things x).word) : Stay h (setTg h x t) := by
  refine ⟨by simp [setTg], Eq.refl _, fun y hy ho => ?_⟩
  obtain ⟨j, e, hj, ej⟩ := gd_in hy
  subst e
  by_cases e : x = (j : Int)
  · have e1 : gd (setTg h x t).things j = t := by
      simp only [setTg, gd, e, Int.toNat_natCast, List.getD_eq_getElem?_getD, List.getElem?_set, hj, if_true, Option.getD_some]
    rw [e1]
    have := ht (by rw [e]; exact ho)
    rw [e] at this; exact this
  · have e1 : gd (setTg h x t).things j = gd h.things j := by
      simp only [setTg, gd, Int.toNat_natCast, List.getD_eq_getElem?_getD, List.getElem?_set]
      rw [if_neg (by omega)]
    rw [e1]; exact ⟨ho, Eq.refl _, Eq.refl _, Eq.refl _⟩
theorem s_room {h : Hs} {rs : List Rm} (hr : rs.length = h.rooms.length) : Stay h ⟨rs, h.things⟩ := ⟨Nat.le_refl _, hr, fun _ _ ho => ⟨ho, Eq.refl _, Eq.refl _, Eq.refl _⟩⟩
theorem s_put (h : Hs) (to x : Int) : Stay h (putOf h to x) := s_room (by simp)
theorem s_paint {h : Hs} (o : Int) (l : List Int) (hl : o = -1 ∨ ∀ y ∈ l, ¬ (gd h.things y).owner = -1) : Stay h { h with things := paint (ownF o) l h.things } := by
  refine ⟨by simp, Eq.refl _, fun y hy ho => ?_⟩
  obtain ⟨h1, h2⟩ := paint_gd (o := o) (l := l) hy
  refine ⟨?_, h1⟩
  rw [h2]
  split
  · rename_i hm
    rcases hl with h | h
    · exact h
    · exact absurd ho (h y hm)
  · exact ho
theorem reachE_notSh {n : Nat} {h : Hs} (f : Fine n h) {x : Int} (hx : isT h x = true) : ∀ y ∈ reachE h.things false x, ¬ (gd h.things y).owner = -1 := by
  obtain ⟨k, rfl, hk⟩ := isT_nat hx
  intro y hy
  rw [← own_reachE f.good.ok hk, ownA, List.mem_filter] at hy
  simpa [notSh] using hy.2
theorem froze_not {L : List Tg} {x : Int} (h : ¬ frozeE L x = true) : ¬ (gd L x).owner = -1 := by
  intro hc
  simp [frozeE, notSh] at h
  exact h.2 hc
theorem s_do {n : Nat} {h : Hs} (f : Fine n h) (d : Ld) : Stay h (doE h d).1 := by
  rw [doE]
  by_cases h0 : d.d = 0
  · rw [if_pos h0, leafOf]; repeat' split
    all_goals first | exact .rfl | exact s_add _ _
  rw [if_neg h0]
  by_cases h1 : d.d = 1
  · rw [if_pos h1, listOf]; repeat' split
    all_goals first | exact .rfl | exact s_add _ _
  rw [if_neg h1]
  by_cases h2 : d.d = 2
  · rw [if_pos h2]
    simp only [setE]
    split
    · exact .rfl
    · split
      · exact .rfl
      · split
        · exact .rfl
        · rename_i a1 a2 a3
          exact s_tg _ (ask_seen (by simpa using a2) (x := d.a) (by simp)).1.1 fun hc => absurd hc (froze_not a3)
  rw [if_neg h2]
  by_cases h3 : d.d = 3
  · rw [if_pos h3]
    simp only [pushE]
    split
    · exact .rfl
    · split
      · exact .rfl
      · split
        · exact .rfl
        · split
          · exact .rfl
          · rename_i a1 a2 a3 a4
            exact s_tg _ (ask_seen (by simpa using a2) (x := d.a) (by simp)).1.1 fun hc => absurd hc (froze_not a3)
  rw [if_neg h3]
  by_cases h4 : d.d = 4
  · rw [if_pos h4]
    simp only [freezeE]
    split
    · rename_i a1
      exact s_tg _ (ask_seen a1 (x := d.a) (by simp)).1.1 fun hc => ⟨hc, Eq.refl _, Eq.refl _, Eq.refl _⟩
    · exact .rfl
  rw [if_neg h4]
  by_cases h5 : d.d = 5
  · rw [if_pos h5]
    simp only [shareE]
    split
    · exact .rfl
    · split
      · exact .rfl
      · exact s_paint _ _ (.inl (Eq.refl _))
  rw [if_neg h5]
  by_cases h6 : d.d = 6
  · rw [if_pos h6]
    by_cases hz : (sendE h d.who d.a d.b).2.2 = 0
    · obtain ⟨_, _, _, _, _, _, e⟩ := send_zero hz
      rw [e]
      exact (s_app _ h.rooms (Eq.refl _)).trans (s_put _ _ _)
    · have : (sendE h d.who d.a d.b).1 = h := by
        rw [sendE] at hz ⊢
        split
        · exact Eq.refl _
        rename_i b1
        split
        · exact Eq.refl _
        rename_i b2
        split
        · exact Eq.refl _
        rename_i b3
        rw [if_neg b1, if_neg b2, if_neg b3] at hz
        exact absurd (Eq.refl _) hz
      rw [this]; exact .rfl
  rw [if_neg h6]
  by_cases h7 : d.d = 7
  · rw [if_pos h7]
    by_cases hz : (moveE h d.who d.a d.b).2 = 0
    · obtain ⟨_, _, a3, _, e⟩ := move_zero hz
      simp only [e]
      exact (s_paint _ _ (.inr (reachE_notSh f a3))).trans (s_put _ _ _)
    · have : (moveE h d.who d.a d.b).1 = h := by
        rw [moveE] at hz ⊢
        split
        · exact Eq.refl _
        rename_i b1
        split
        · exact Eq.refl _
        rename_i b2
        split
        · exact Eq.refl _
        rename_i b3
        split
        · exact Eq.refl _
        rename_i b4
        rw [if_neg b1, if_neg b2, if_neg b3, if_neg b4] at hz
        exact absurd (Eq.refl _) hz
      simp only [this]; exact .rfl
  rw [if_neg h7]
  by_cases h8 : d.d = 8
  · rw [if_pos h8]
    simp only [takeOf]
    split
    · exact .rfl
    · split
      · exact .rfl
      · exact s_room (by simp)
  rw [if_neg h8]
  by_cases h9 : d.d = 9
  · rw [if_pos h9]
    simp only [overOf]
    split
    · exact .rfl
    · rename_i ha
      have hr := isR_nn (askOf_r (by simpa using ha)).1
      refine ⟨by simp, by simp, fun y hy ho => ?_⟩
      obtain ⟨j, rfl, hj, ej⟩ := gd_in hy
      rw [ej] at ho
      have e1 : gd (h.things.map (goneF d.who)) j = h.things[j] := by
        rw [gd_at (by simpa using hj), List.getElem_map, goneF, if_neg (by omega)]
      simp only [e1, ej]; exact ⟨ho, trivial, trivial, trivial⟩
  rw [if_neg h9]; exact .rfl
theorem stay_graph {n : Nat} {h h' : Hs} (f : Fine n h) (s : Stay h h') {x : Int} (hx : 0 ≤ x ∧ x < h.things.length) (ho : (gd h.things x).owner = -1) :
    ((reachA h'.things x).map fun y => cellOf (reachA h'.things x) (gd h'.things y)) = (reachA h.things x).map fun y => cellOf (reachA h.things x) (gd h.things y) := by
  have hreach := reach_seen f.good.ok (who := -1) hx (.inl ho)
  exact cells_same (fun y => y ∈ reachA h.things x) (fun y hy => (hreach y hy).1) (fun y hy => reachA_closed f.good.ok.items hx hy) s.more
    (fun y hy => (s.same y (hreach y hy).1 ((hreach y hy).2.elim id id)).2) (reachA_self f.good.ok.items hx)
end Go.Proofs.Ytkkbcpcihadkhaa

/- A thing of the document's house moves. -/
namespace Go.Proofs.Ytkkbcpcihadkhaa
set_option linter.all false
open Go.Vc Go.Proofs
set_option linter.unusedSimpArgs false
set_option linter.unusedVariables false
set_option maxRecDepth 100000
set_option maxHeartbeats 4000000
attribute [local irreducible] CallW EqK
theorem emove_ok (h : Hs) (fl : Nat → Bool) (hok : Hok h) (who to x : Int) : Meets Try.prog 60 [eH h fl] (.cons (.ptr 0 [.d]) (.cons (avInt who) (.cons (avInt to) (.cons (avInt x) .nil))))
  fun av X κ => ∃ fl', av = avInt (moveE h who to x).2 ∧ X = [eH (moveE h who to x).1 fl'] ∧ κ = [(0, [.d])] := by
 refine fb Try.func60 Try.ntmps60 [.tmp 8] fun w0 I0 F0 hF => ?_
 repeat first|refine n1 ?_|((first|refine rg 0 [0, 1, 2, 3] [0, 1, 2, 3] [] ?_|refine rg 1 [0, 1, 2, 3] [0, 1, 2, 3, 27] [(4, 16), (10, 22)] ?_);simp (maxSteps := 1000000) [hF])
 cases hr : isR h who with
 | false =>
  have hc : moveE h who to x = (h, 1) := by simp [moveE, hr]
  refine (ewho_c h fl who).go [(0, [])] (by simp (maxSteps := 1000000) [hF, hr, eH]) ?_;rintro av X κ ⟨rfl, rfl, rfl⟩;simp (maxSteps := 1000000) [hF, hr, eH]
  repeat first|refine n1 ?_|((first|refine rg 2 [] [8] [] ?_|refine nc ?_);simp (maxSteps := 1000000) [hF])
  refine VS.widen [(0, [.d])] (by simp [covers, mpre]) ?_
  (try refine nr ?_);(repeat first|refine nb_ ?_|refine nl_ ?_);refine endK.o [8] [0] [(0, [.d])] ?_;simp [hF, retK, covers, mpre, eH, hc]
  exact ⟨_, rfl⟩
 | true =>
  obtain ⟨w, rfl, hwl⟩ := isR_nat hr
  refine (ewho_c h fl w).go [(0, [])] (by simp (maxSteps := 1000000) [hF, hr, eH]) ?_;rintro av X κ ⟨rfl, rfl, rfl⟩;simp (maxSteps := 1000000) [hF, hr, eH]
  cases hr2 : isR h to with
  | false =>
   have hc : moveE h w to x = (h, 1) := by simp [moveE, hr2]
   refine (ewho_c h fl to).go [(0, [])] (by simp (maxSteps := 1000000) [hF, hr2, eH]) ?_;rintro av X κ ⟨rfl, rfl, rfl⟩;simp (maxSteps := 1000000) [hF, hr2, eH]
   repeat first|refine n1 ?_|((first|refine rg 2 [] [8] [] ?_|refine nc ?_);simp (maxSteps := 1000000) [hF])
   refine VS.widen [(0, [.d])] (by simp [covers, mpre]) ?_
   (try refine nr ?_);(repeat first|refine nb_ ?_|refine nl_ ?_);refine endK.o [8] [0] [(0, [.d])] ?_;simp [hF, retK, covers, mpre, eH, hc]
   exact ⟨_, rfl⟩
  | true =>
   obtain ⟨t, rfl, htl⟩ := isR_nat hr2
   refine (ewho_c h fl t).go [(0, [])] (by simp (maxSteps := 1000000) [hF, hr2, eH]) ?_;rintro av X κ ⟨rfl, rfl, rfl⟩;simp (maxSteps := 1000000) [hF, hr2, eH]
   cases ht : isT h x with
   | false =>
    have hc : moveE h w t x = (h, 1) := by simp [moveE, ht]
    refine (ething_c h fl x).go [(0, [])] (by simp (maxSteps := 1000000) [hF, ht, eH]) ?_;rintro av X κ ⟨rfl, rfl, rfl⟩;simp (maxSteps := 1000000) [hF, ht, eH]
    repeat first|refine n1 ?_|((first|refine rg 2 [] [8] [] ?_|refine nc ?_);simp (maxSteps := 1000000) [hF])
    refine VS.widen [(0, [.d])] (by simp [covers, mpre]) ?_
    (try refine nr ?_);(repeat first|refine nb_ ?_|refine nl_ ?_);refine endK.o [8] [0] [(0, [.d])] ?_;simp [hF, retK, covers, mpre, eH, hc]
    exact ⟨_, rfl⟩
   | true =>
    obtain ⟨k, rfl, hk⟩ := isT_nat ht
    have hn := eTgs_nth (o := true) hk
    have hnr := eRmsF_nth (fl := fl) htl
    have hrl := reachE_len hok false hk
    have hLv : ∀ i, (hi : i < (reachE h.things false (k : Int)).length) → ∃ y : Nat, (reachE h.things false (k : Int))[i] = y ∧ y < h.things.length := fun i hi => reachE_nat hok false hk hi
    refine (ething_c h fl k).go [(0, [])] (by simp (maxSteps := 1000000) [hF, ht, eH]) ?_;rintro av X κ ⟨rfl, rfl, rfl⟩;simp (maxSteps := 1000000) [hF, ht, eH]
    repeat first|refine n1 ?_|refine n2 ?_|((first|refine rg 3 [0, 1, 2, 3] [0, 1, 2, 3, 9] [] ?_|refine nc ?_);simp (maxSteps := 1000000) [hF])
    refine (ereach_c h fl hok false k hk).go [(0, [])] (by simp (maxSteps := 1000000) [hF, eH]) ?_;rintro av X κ ⟨rfl, rfl, rfl⟩;simp (maxSteps := 1000000) [hF, eH]
    repeat first|refine n1 ?_
    refine VS.cool 9 (by simp (maxSteps := 1000000) [hF]) ?_;simp [hF, St.cool]
    generalize hL : reachE h.things false (k : Int) = L at *
    by_cases ho : h.things[k].owner = w
    ·repeat first|(refine rg 4 [0, 1, 2, 3, 9] [0, 1, 2, 3, 9, 46] [(10, 41)] ?_;simp (maxSteps := 1000000) [hF, hn, hk, ho])
     cases htd : tiedOf h w L with
     | true =>
      have hc : moveE h w t k = (h, 1) := by simp [moveE, hr, hr2, ht, hk, ho, hL, htd]
      refine (eheld_c h fl hok w hwl L false hrl).go [(0, [])] (by simp (maxSteps := 1000000) [hF, eH, htd]) ?_;rintro av X κ ⟨rfl, rfl, rfl⟩;simp (maxSteps := 1000000) [hF, eH, htd]
      repeat first|refine n1 ?_|((first|refine rg 5 [] [8] [] ?_|refine nc ?_);simp (maxSteps := 1000000) [hF, htd])
      refine VS.widen [(0, [.d])] (by simp [covers, mpre]) ?_
      (try refine nr ?_);(repeat first|refine nb_ ?_|refine nl_ ?_);refine endK.o [8] [0] [(0, [.d])] ?_;simp [hF, retK, covers, mpre, eH, hc]
      exact ⟨_, rfl⟩
     | false =>
      refine (eheld_c h fl hok w hwl L false hrl).go [(0, [])] (by simp (maxSteps := 1000000) [hF, eH, htd]) ?_;rintro av X κ ⟨rfl, rfl, rfl⟩;simp (maxSteps := 1000000) [hF, eH, htd]
      repeat first|refine n1 ?_|refine n2 ?_|((first|refine rg 6 [0, 1, 2, 3, 9] [0, 2, 3, 9, 10] [] ?_|refine nc ?_);simp (maxSteps := 1000000) [hF, htd])
      have hse : (if overB h t = true then 8 else stateOf h w [(k : Int)]) = sendingE h w t k := rfl
      refine (esending_c h fl w t hwl htl k ht).go [(0, [])] (by simp (maxSteps := 1000000) [hF, eH, hse]) ?_;rintro av X κ ⟨rfl, rfl, rfl⟩;simp (maxSteps := 1000000) [hF, eH, hse]
      by_cases hz : sendingE h w t k = 0
      ·have hself : h.rooms.set t ⟨h.rooms[t].queue, h.rooms[t].over⟩ = h.rooms := List.set_getElem_self _
       have hs0 := eRmsF_set fl h.rooms t h.rooms[t].queue h.rooms[t].over false
       rw [hself] at hs0
       have hnr2 := eRmsF_nth (fl := flSet fl t false) htl
       rw [show flSet fl t false t = false by simp [flSet]] at hnr2
       repeat first|refine n1 ?_|refine n2 ?_|((first|refine rg 7 [0, 2, 3, 9, 10] [0, 2, 3, 9, 10, 53] [] ?_|refine nc ?_);simp (maxSteps := 1000000) [hF, hz])
       refine VS.cold 0 [.d, .f 1, .i t, .f 1] (by simp (maxSteps := 1000000) [hF, hnr, htl, T.freeze, hs0]) (by simp (maxSteps := 1000000) [hF, hnr, htl, T.freeze, hs0]) (by simp (maxSteps := 1000000) [hF, hnr, htl, T.freeze, hs0]) ?_;simp [hF, St.cold, hnr, htl, T.freeze, hs0]
       by_cases hq : 50 ≤ h.rooms[t].queue.length
       ·have hqi : (50 : Int) ≤ h.rooms[t].queue.length := by omega
        have hc : moveE h w t k = (h, 9) := by simp [moveE, hr, hr2, ht, hL, htd, hz, htl, hq]
        repeat first|refine n1 ?_|((first|refine rg 9 [0, 2, 3, 9] [0, 2, 3, 9, 64] [] ?_|refine rg 10 [] [8] [] ?_|refine nc ?_);simp (maxSteps := 1000000) [hF, hnr2, htl, hqi, hs0])
        refine VS.widen [(0, [.d])] (by simp [covers, mpre]) ?_
        (try refine nr ?_);(repeat first|refine nb_ ?_|refine nl_ ?_);refine endK.o [8] [0] [(0, [.d])] ?_;simp [hF, retK, covers, mpre, eH, hc]
        exact ⟨_, rfl⟩
       ·have hqi : ¬ (50 : Int) ≤ h.rooms[t].queue.length := by omega
        have hc : moveE h w t k = (putOf { h with things := paint (ownF t) L h.things } t k, 0) := by simp [moveE, hr, hr2, ht, hL, htd, hz, htl, hq, hL]
        repeat first|refine n1 ?_|refine n2 ?_|refine n3 ?_|((first|refine rg 9 [0, 2, 3, 9] [0, 2, 3, 9, 64] [] ?_|refine rg 11 [0, 2, 3, 9] [0, 2, 3, 9, 11] [] ?_|refine nc ?_);simp (maxSteps := 1000000) [hF, hnr2, htl, hqi, hs0])
        refine VS.widen [(0, [.d])] (by simp [covers, mpre]) ?_
        refine VS.pick [0, 2, 3, 9, 11] [0] (by simp [hF]) ?_;simp [hF]
        refine VS.rounds (fun m st => ∃ (i : Nat) (P : List Tg), i + m = L.length ∧ P = paint (ownF t) (L.take i) h.things ∧ st = ⟨[(0, .ptr 0 [.d]), (2, avInt t), (3, avInt k), (9, .imm 1 (dInts L) false), (11, avInt i)], [eH ⟨h.rooms, P⟩ (flSet fl t false)], [(0, [.d])], []⟩) ⟨L.length, 0, h.things, by omega, by simp [paint_nil], by simp [eH]⟩ ?_
        rintro m st ⟨i, P, hi, hP, rfl⟩
        have hPl : P.length = h.things.length := by simp [hP]
        repeat first|refine n1 ?_|((first|refine rg 12 [0, 2, 3, 9, 11] [0, 2, 3, 9, 11, 68] [] ?_|refine nc ?_);simp (maxSteps := 1000000) [hF])
        refine ⟨fun hlt => ?_, fun hge => ?_⟩
        ·obtain ⟨y, hy, hyl⟩ := hLv i hlt
         have hyP : y < P.length := by omega
         have hn2 := eTgs_nth (o := true) hyP
         have hin : (dInts L).nth i = .val (.int .i64 y) := by rw [dInts_nth hlt, hy]
         have hw2 : IntKind.i64.wrap ((i : Int) + 1) = (i + 1 : Nat) := by rw [IntWalk.i64_in _ (by omega)]; rfl
         have hset := eTgs_set true P y t P[y].list P[y].word P[y].items P[y].frozen
         have hst : P.set y ⟨t, P[y].list, P[y].word, P[y].items, P[y].frozen⟩ = paint (ownF t) (L.take (i + 1)) h.things := by
          have e : L.take (i + 1) = L.take i ++ [(y : Int)] := by rw [List.take_add_one, List.getElem?_eq_getElem hlt, hy]; rfl
          rw [e, ← paint_step (f := ownF t) (fun _ => rfl) hyl]
          subst hP; rfl
         repeat first|refine n1 ?_|refine n2 ?_|refine n3 ?_|refine n4 ?_|refine n5 ?_|refine n6 ?_|((first|refine rg 13 [0, 2, 3, 9, 11] [0, 2, 3, 9, 11] [] ?_|(refine dr 14 0 [0, 2, 3, 9, 11] [0, 2, 3, 9, 11] [] [⟨0, 1, 2361183241434822606848, 5⟩, ⟨1, 2361183241434822606848, 4722366482869645213696, 5⟩, ⟨2, 4722366482869645213696, 9444732965739290427392, 5⟩, ⟨4, 9444732965739290427392, 18889465931478580854784, 6⟩, ⟨0, 512, 37778931862957161709568, 5⟩, ⟨0, 2048, 75557863725914323419136, 5⟩, ⟨48, 113336795588871485128704, 151115727451828646838272, 5⟩, ⟨64, 151115727451828646838272, 302231454903657293676544, 6⟩, ⟨0, 4, 604462909807314587353088, 5⟩, ⟨511, 321120920835135874531328, 1208925819614629174706176, 5⟩, ⟨1023, 1208925819614629174706176, 2417851639229258349412352, 5⟩, ⟨1535, 3022314549036572936765440, 0, 0⟩] (.take 0 (.take 1 (.take 2 (.take 3 (.take 4 (.take 5 (.take 6 (.take 7 (.take 8 (.take 9 (.take 10 (.fork (.alt 11 (.done) (.nil)))))))))))))) (.run [0, 1, 2, 3, 4, 5, 6, 7, 8, 9, 10, 11] (.done)) ?_;simp only [drs]));simp (maxSteps := 1000000) [hF, hin, hlt, eH, hn2, hyP, hyl, hset, hw2])
         refine nextK.of [0, 2, 3, 9, 11] [0] (m - 1) (by omega) (by simp [hF]) ?_
         refine ⟨i + 1, _, by omega, hst, ?_⟩
         simp [eH]
        ·have hPf : P = paint (ownF t) L h.things := by rw [hP, List.take_of_length_le (by omega)]
         have hpu : putOf { h with things := paint (ownF t) L h.things } t k = ⟨h.rooms.set t ⟨h.rooms[t].queue ++ [(k : Int)], h.rooms[t].over⟩, paint (ownF t) L h.things⟩ := by simp [putOf, setRm, htl]
         rw [hpu] at hc
         have hs3 := eRmsF_set (flSet fl t false) h.rooms t (h.rooms[t].queue ++ [(k : Int)]) h.rooms[t].over true
         have hp := dInts_app1 h.rooms[t].queue k
         have hm : (dInts (h.rooms[t].queue ++ [(k : Int)])).mid 0 (h.rooms[t].queue.length + 1) = dInts (h.rooms[t].queue ++ [(k : Int)]) := sq_mid_all _ _ (by simp)
         have hm0 : (dInts h.rooms[t].queue).mid 0 h.rooms[t].queue.length = dInts h.rooms[t].queue := by simp
         have c1 : (h.rooms[t].queue.length + 1) * 8 ≤ 140737488355328 := by omega
         have c2 : h.rooms[t].queue.length ≤ 9223372036854775806 := by omega
         repeat first|refine n1 ?_|refine n7 ?_|((refine dr 15 0 [0, 2, 3] [] [] [⟨0, 1, 4835703278458516698824704, 5⟩, ⟨1, 4835703278458516698824704, 9671406556917033397649408, 5⟩, ⟨2, 9671406556917033397649408, 19342813113834066795298816, 5⟩, ⟨4, 19342813113834066795298816, 38685626227668133590597632, 6⟩, ⟨0, 4, 77371252455336267181195264, 5⟩, ⟨0, 1, 154742504910672534362390528, 5⟩, ⟨32, 154742504910672534362390528, 309485009821345068724781056, 5⟩, ⟨64, 309485009821345068724781056, 618970019642690137449562112, 5⟩, ⟨128, 618970019642690137449562112, 1237940039285380274899124224, 6⟩, ⟨0, 4, 2475880078570760549798248448, 5⟩, ⟨768, 3713820117856140824697372672, 4951760157141521099596496896, 5⟩, ⟨1024, 4951760157141521099596496896, 9903520314283042199192993792, 5⟩, ⟨2048, 9903520314283042199192993792, 19807040628566084398385987584, 6⟩, ⟨4096, 19807040628566084398385987584, 39614081257132168796771975168, 0⟩, ⟨0, 8, 79228162514264337593543950336, 5⟩, ⟨16384, 79228162514264337593543950336, 158456325028528675187087900672, 4⟩, ⟨40960, 198070406285660843983859875840, 316912650057057350374175801344, 0⟩, ⟨131071, 116056878683004400771792896, 633825300114114700748351602688, 5⟩, ⟨262143, 633825300114114700748351602688, 1267650600228229401496703205376, 5⟩, ⟨393215, 1584563250285286751870879006720, 0, 0⟩] (.take 0 (.take 1 (.take 2 (.take 4 (.take 5 (.take 6 (.take 7 (.take 8 (.take 9 (.take 10 (.take 11 (.take 12 (.take 14 (.fork (.alt 3 (.fork (.alt 13 (.fork (.alt 15 (.fork (.alt 16 (.take 17 (.take 18 (.fork (.alt 19 (.done) (.nil))))) (.nil))) (.nil))) (.alt 15 (.fork (.alt 13 (.fork (.alt 16 (.take 17 (.take 18 (.fork (.alt 19 (.done) (.nil))))) (.nil))) (.nil))) (.nil)))) (.alt 13 (.fork (.alt 3 (.fork (.alt 15 (.fork (.alt 16 (.take 17 (.take 18 (.fork (.alt 19 (.done) (.nil))))) (.nil))) (.nil))) (.alt 15 (.fork (.alt 3 (.fork (.alt 16 (.take 17 (.take 18 (.fork (.alt 19 (.done) (.nil))))) (.nil))) (.alt 16 (.take 3 (.take 17 (.take 18 (.fork (.alt 19 (.done) (.nil)))))) (.nil)))) (.nil)))) (.alt 15 (.fork (.alt 3 (.fork (.alt 13 (.fork (.alt 16 (.take 17 (.take 18 (.fork (.alt 19 (.done) (.nil))))) (.nil))) (.nil))) (.alt 13 (.fork (.alt 3 (.fork (.alt 16 (.take 17 (.take 18 (.fork (.alt 19 (.done) (.nil))))) (.nil))) (.alt 16 (.take 3 (.take 17 (.take 18 (.fork (.alt 19 (.done) (.nil)))))) (.nil)))) (.nil)))) (.nil)))))))))))))))))) (.run [0, 1, 2, 4, 5, 6, 7, 8, 9, 10, 11, 12, 14] (.both (.run [3] (.both (.run [13, 15, 16, 17, 18, 19] (.done)) (.run [15, 13, 16, 17, 18, 19] (.done)))) (.both (.run [13] (.both (.run [3, 15, 16, 17, 18, 19] (.done)) (.run [15] (.both (.run [3, 16, 17, 18, 19] (.done)) (.run [16, 3, 17, 18, 19] (.done)))))) (.run [15] (.both (.run [3, 13, 16, 17, 18, 19] (.done)) (.run [13] (.both (.run [3, 16, 17, 18, 19] (.done)) (.run [16, 3, 17, 18, 19] (.done))))))))) ?_;simp only [drs]);simp (maxSteps := 1000000) [hF, eH, hnr2, htl])
         have hq8 : h.rooms[t].queue.length ≤ 100000000 := by omega
         all_goals (repeat' refine And.intro ?_ ?_)
         all_goals (refine (eown_ok false h.rooms[t].queue hq8).go [] (by simp (maxSteps := 1000000) [hF, hnr2, htl, hm0, hp, hm, c1, c2, hs3]) ?_;rintro av X κ ⟨rfl, rfl, rfl⟩;simp (maxSteps := 1000000) [hF, hnr2, htl, hm0, hp, hm, c1, c2, hs3])
         all_goals (repeat' refine And.intro ?_ ?_)
         all_goals (repeat first|refine n1 ?_|(refine rg 16 [] [8] [] ?_;simp (maxSteps := 1000000) [hF, hnr2, htl, hm0, hp, hm, c1, c2, hs3]))
         all_goals (refine VS.widen [(0, [.d])] (by simp [covers, mpre]) ?_)
         all_goals ((try refine nr ?_);(repeat first|refine nb_ ?_|refine nl_ ?_);refine endK.o [8] [0] [(0, [.d])] ?_;simp [hF, retK, covers, mpre, eH, hc, hPf])
         all_goals exact ⟨_, rfl⟩
      ·have hc : moveE h w t k = (h, sendingE h w t k) := by simp [moveE, hr, hr2, ht, hL, htd, hz]
       repeat first|refine n1 ?_|((first|refine rg 7 [0, 2, 3, 9, 10] [0, 2, 3, 9, 10, 53] [] ?_|refine rg 8 [10] [8] [] ?_|refine nc ?_);simp (maxSteps := 1000000) [hF, hz])
       refine VS.widen [(0, [.d])] (by simp [covers, mpre]) ?_
       (try refine nr ?_);(repeat first|refine nb_ ?_|refine nl_ ?_);refine endK.o [8] [0] [(0, [.d])] ?_;simp [hF, retK, covers, mpre, eH, hc]
       exact ⟨_, rfl⟩
    ·repeat first|refine n1 ?_|refine n2 ?_|((first|refine rg 4 [0, 1, 2, 3, 9] [0, 1, 2, 3, 9, 46] [(10, 41)] ?_|refine rg 6 [0, 1, 2, 3, 9] [0, 2, 3, 9, 10] [] ?_|refine nc ?_);simp (maxSteps := 1000000) [hF, hn, hk, ho])
     have hse : (if overB h t = true then 8 else stateOf h w [(k : Int)]) = sendingE h w t k := rfl
     refine (esending_c h fl w t hwl htl k ht).go [(0, [])] (by simp (maxSteps := 1000000) [hF, eH, hse]) ?_;rintro av X κ ⟨rfl, rfl, rfl⟩;simp (maxSteps := 1000000) [hF, eH, hse]
     by_cases hz : sendingE h w t k = 0
     ·have hself : h.rooms.set t ⟨h.rooms[t].queue, h.rooms[t].over⟩ = h.rooms := List.set_getElem_self _
      have hs0 := eRmsF_set fl h.rooms t h.rooms[t].queue h.rooms[t].over false
      rw [hself] at hs0
      have hnr2 := eRmsF_nth (fl := flSet fl t false) htl
      rw [show flSet fl t false t = false by simp [flSet]] at hnr2
      repeat first|refine n1 ?_|refine n2 ?_|((first|refine rg 7 [0, 2, 3, 9, 10] [0, 2, 3, 9, 10, 53] [] ?_|refine nc ?_);simp (maxSteps := 1000000) [hF, hz])
      refine VS.cold 0 [.d, .f 1, .i t, .f 1] (by simp (maxSteps := 1000000) [hF, hnr, htl, T.freeze, hs0]) (by simp (maxSteps := 1000000) [hF, hnr, htl, T.freeze, hs0]) (by simp (maxSteps := 1000000) [hF, hnr, htl, T.freeze, hs0]) ?_;simp [hF, St.cold, hnr, htl, T.freeze, hs0]
      by_cases hq : 50 ≤ h.rooms[t].queue.length
      ·have hqi : (50 : Int) ≤ h.rooms[t].queue.length := by omega
       have hc : moveE h w t k = (h, 9) := by simp [moveE, hr, hr2, ht, hk, ho, hz, htl, hq]
       repeat first|refine n1 ?_|((first|refine rg 9 [0, 2, 3, 9] [0, 2, 3, 9, 64] [] ?_|refine rg 10 [] [8] [] ?_|refine nc ?_);simp (maxSteps := 1000000) [hF, hnr2, htl, hqi, hs0])
       refine VS.widen [(0, [.d])] (by simp [covers, mpre]) ?_
       (try refine nr ?_);(repeat first|refine nb_ ?_|refine nl_ ?_);refine endK.o [8] [0] [(0, [.d])] ?_;simp [hF, retK, covers, mpre, eH, hc]
       exact ⟨_, rfl⟩
      ·have hqi : ¬ (50 : Int) ≤ h.rooms[t].queue.length := by omega
       have hc : moveE h w t k = (putOf { h with things := paint (ownF t) L h.things } t k, 0) := by simp [moveE, hr, hr2, ht, hk, ho, hz, htl, hq, hL]
       repeat first|refine n1 ?_|refine n2 ?_|refine n3 ?_|((first|refine rg 9 [0, 2, 3, 9] [0, 2, 3, 9, 64] [] ?_|refine rg 11 [0, 2, 3, 9] [0, 2, 3, 9, 11] [] ?_|refine nc ?_);simp (maxSteps := 1000000) [hF, hnr2, htl, hqi, hs0])
       refine VS.widen [(0, [.d])] (by simp [covers, mpre]) ?_
       refine VS.pick [0, 2, 3, 9, 11] [0] (by simp [hF]) ?_;simp [hF]
       refine VS.rounds (fun m st => ∃ (i : Nat) (P : List Tg), i + m = L.length ∧ P = paint (ownF t) (L.take i) h.things ∧ st = ⟨[(0, .ptr 0 [.d]), (2, avInt t), (3, avInt k), (9, .imm 1 (dInts L) false), (11, avInt i)], [eH ⟨h.rooms, P⟩ (flSet fl t false)], [(0, [.d])], []⟩) ⟨L.length, 0, h.things, by omega, by simp [paint_nil], by simp [eH]⟩ ?_
       rintro m st ⟨i, P, hi, hP, rfl⟩
       have hPl : P.length = h.things.length := by simp [hP]
       repeat first|refine n1 ?_|((first|refine rg 12 [0, 2, 3, 9, 11] [0, 2, 3, 9, 11, 68] [] ?_|refine nc ?_);simp (maxSteps := 1000000) [hF])
       refine ⟨fun hlt => ?_, fun hge => ?_⟩
       ·obtain ⟨y, hy, hyl⟩ := hLv i hlt
        have hyP : y < P.length := by omega
        have hn2 := eTgs_nth (o := true) hyP
        have hin : (dInts L).nth i = .val (.int .i64 y) := by rw [dInts_nth hlt, hy]
        have hw2 : IntKind.i64.wrap ((i : Int) + 1) = (i + 1 : Nat) := by rw [IntWalk.i64_in _ (by omega)]; rfl
        have hset := eTgs_set true P y t P[y].list P[y].word P[y].items P[y].frozen
        have hst : P.set y ⟨t, P[y].list, P[y].word, P[y].items, P[y].frozen⟩ = paint (ownF t) (L.take (i + 1)) h.things := by
         have e : L.take (i + 1) = L.take i ++ [(y : Int)] := by rw [List.take_add_one, List.getElem?_eq_getElem hlt, hy]; rfl
         rw [e, ← paint_step (f := ownF t) (fun _ => rfl) hyl]
         subst hP; rfl
        repeat first|refine n1 ?_|refine n2 ?_|refine n3 ?_|refine n4 ?_|refine n5 ?_|refine n6 ?_|((first|refine rg 13 [0, 2, 3, 9, 11] [0, 2, 3, 9, 11] [] ?_|(refine dr 14 0 [0, 2, 3, 9, 11] [0, 2, 3, 9, 11] [] [⟨0, 1, 2361183241434822606848, 5⟩, ⟨1, 2361183241434822606848, 4722366482869645213696, 5⟩, ⟨2, 4722366482869645213696, 9444732965739290427392, 5⟩, ⟨4, 9444732965739290427392, 18889465931478580854784, 6⟩, ⟨0, 512, 37778931862957161709568, 5⟩, ⟨0, 2048, 75557863725914323419136, 5⟩, ⟨48, 113336795588871485128704, 151115727451828646838272, 5⟩, ⟨64, 151115727451828646838272, 302231454903657293676544, 6⟩, ⟨0, 4, 604462909807314587353088, 5⟩, ⟨511, 321120920835135874531328, 1208925819614629174706176, 5⟩, ⟨1023, 1208925819614629174706176, 2417851639229258349412352, 5⟩, ⟨1535, 3022314549036572936765440, 0, 0⟩] (.take 0 (.take 1 (.take 2 (.take 3 (.take 4 (.take 5 (.take 6 (.take 7 (.take 8 (.take 9 (.take 10 (.fork (.alt 11 (.done) (.nil)))))))))))))) (.run [0, 1, 2, 3, 4, 5, 6, 7, 8, 9, 10, 11] (.done)) ?_;simp only [drs]));simp (maxSteps := 1000000) [hF, hin, hlt, eH, hn2, hyP, hyl, hset, hw2])
        refine nextK.of [0, 2, 3, 9, 11] [0] (m - 1) (by omega) (by simp [hF]) ?_
        refine ⟨i + 1, _, by omega, hst, ?_⟩
        simp [eH]
       ·have hPf : P = paint (ownF t) L h.things := by rw [hP, List.take_of_length_le (by omega)]
        have hpu : putOf { h with things := paint (ownF t) L h.things } t k = ⟨h.rooms.set t ⟨h.rooms[t].queue ++ [(k : Int)], h.rooms[t].over⟩, paint (ownF t) L h.things⟩ := by simp [putOf, setRm, htl]
        rw [hpu] at hc
        have hs3 := eRmsF_set (flSet fl t false) h.rooms t (h.rooms[t].queue ++ [(k : Int)]) h.rooms[t].over true
        have hp := dInts_app1 h.rooms[t].queue k
        have hm : (dInts (h.rooms[t].queue ++ [(k : Int)])).mid 0 (h.rooms[t].queue.length + 1) = dInts (h.rooms[t].queue ++ [(k : Int)]) := sq_mid_all _ _ (by simp)
        have hm0 : (dInts h.rooms[t].queue).mid 0 h.rooms[t].queue.length = dInts h.rooms[t].queue := by simp
        have c1 : (h.rooms[t].queue.length + 1) * 8 ≤ 140737488355328 := by omega
        have c2 : h.rooms[t].queue.length ≤ 9223372036854775806 := by omega
        repeat first|refine n1 ?_|refine n7 ?_|((refine dr 15 0 [0, 2, 3] [] [] [⟨0, 1, 4835703278458516698824704, 5⟩, ⟨1, 4835703278458516698824704, 9671406556917033397649408, 5⟩, ⟨2, 9671406556917033397649408, 19342813113834066795298816, 5⟩, ⟨4, 19342813113834066795298816, 38685626227668133590597632, 6⟩, ⟨0, 4, 77371252455336267181195264, 5⟩, ⟨0, 1, 154742504910672534362390528, 5⟩, ⟨32, 154742504910672534362390528, 309485009821345068724781056, 5⟩, ⟨64, 309485009821345068724781056, 618970019642690137449562112, 5⟩, ⟨128, 618970019642690137449562112, 1237940039285380274899124224, 6⟩, ⟨0, 4, 2475880078570760549798248448, 5⟩, ⟨768, 3713820117856140824697372672, 4951760157141521099596496896, 5⟩, ⟨1024, 4951760157141521099596496896, 9903520314283042199192993792, 5⟩, ⟨2048, 9903520314283042199192993792, 19807040628566084398385987584, 6⟩, ⟨4096, 19807040628566084398385987584, 39614081257132168796771975168, 0⟩, ⟨0, 8, 79228162514264337593543950336, 5⟩, ⟨16384, 79228162514264337593543950336, 158456325028528675187087900672, 4⟩, ⟨40960, 198070406285660843983859875840, 316912650057057350374175801344, 0⟩, ⟨131071, 116056878683004400771792896, 633825300114114700748351602688, 5⟩, ⟨262143, 633825300114114700748351602688, 1267650600228229401496703205376, 5⟩, ⟨393215, 1584563250285286751870879006720, 0, 0⟩] (.take 0 (.take 1 (.take 2 (.take 4 (.take 5 (.take 6 (.take 7 (.take 8 (.take 9 (.take 10 (.take 11 (.take 12 (.take 14 (.fork (.alt 3 (.fork (.alt 13 (.fork (.alt 15 (.fork (.alt 16 (.take 17 (.take 18 (.fork (.alt 19 (.done) (.nil))))) (.nil))) (.nil))) (.alt 15 (.fork (.alt 13 (.fork (.alt 16 (.take 17 (.take 18 (.fork (.alt 19 (.done) (.nil))))) (.nil))) (.nil))) (.nil)))) (.alt 13 (.fork (.alt 3 (.fork (.alt 15 (.fork (.alt 16 (.take 17 (.take 18 (.fork (.alt 19 (.done) (.nil))))) (.nil))) (.nil))) (.alt 15 (.fork (.alt 3 (.fork (.alt 16 (.take 17 (.take 18 (.fork (.alt 19 (.done) (.nil))))) (.nil))) (.alt 16 (.take 3 (.take 17 (.take 18 (.fork (.alt 19 (.done) (.nil)))))) (.nil)))) (.nil)))) (.alt 15 (.fork (.alt 3 (.fork (.alt 13 (.fork (.alt 16 (.take 17 (.take 18 (.fork (.alt 19 (.done) (.nil))))) (.nil))) (.nil))) (.alt 13 (.fork (.alt 3 (.fork (.alt 16 (.take 17 (.take 18 (.fork (.alt 19 (.done) (.nil))))) (.nil))) (.alt 16 (.take 3 (.take 17 (.take 18 (.fork (.alt 19 (.done) (.nil)))))) (.nil)))) (.nil)))) (.nil)))))))))))))))))) (.run [0, 1, 2, 4, 5, 6, 7, 8, 9, 10, 11, 12, 14] (.both (.run [3] (.both (.run [13, 15, 16, 17, 18, 19] (.done)) (.run [15, 13, 16, 17, 18, 19] (.done)))) (.both (.run [13] (.both (.run [3, 15, 16, 17, 18, 19] (.done)) (.run [15] (.both (.run [3, 16, 17, 18, 19] (.done)) (.run [16, 3, 17, 18, 19] (.done)))))) (.run [15] (.both (.run [3, 13, 16, 17, 18, 19] (.done)) (.run [13] (.both (.run [3, 16, 17, 18, 19] (.done)) (.run [16, 3, 17, 18, 19] (.done))))))))) ?_;simp only [drs]);simp (maxSteps := 1000000) [hF, eH, hnr2, htl])
        have hq8 : h.rooms[t].queue.length ≤ 100000000 := by omega
        all_goals (repeat' refine And.intro ?_ ?_)
        all_goals (refine (eown_ok false h.rooms[t].queue hq8).go [] (by simp (maxSteps := 1000000) [hF, hnr2, htl, hm0, hp, hm, c1, c2, hs3]) ?_;rintro av X κ ⟨rfl, rfl, rfl⟩;simp (maxSteps := 1000000) [hF, hnr2, htl, hm0, hp, hm, c1, c2, hs3])
        all_goals (repeat' refine And.intro ?_ ?_)
        all_goals (repeat first|refine n1 ?_|(refine rg 16 [] [8] [] ?_;simp (maxSteps := 1000000) [hF, hnr2, htl, hm0, hp, hm, c1, c2, hs3]))
        all_goals (refine VS.widen [(0, [.d])] (by simp [covers, mpre]) ?_)
        all_goals ((try refine nr ?_);(repeat first|refine nb_ ?_|refine nl_ ?_);refine endK.o [8] [0] [(0, [.d])] ?_;simp [hF, retK, covers, mpre, eH, hc, hPf])
        all_goals exact ⟨_, rfl⟩
     ·have hc : moveE h w t k = (h, sendingE h w t k) := by simp [moveE, hr, hr2, ht, hk, ho, hz]
      repeat first|refine n1 ?_|((first|refine rg 7 [0, 2, 3, 9, 10] [0, 2, 3, 9, 10, 53] [] ?_|refine rg 8 [10] [8] [] ?_|refine nc ?_);simp (maxSteps := 1000000) [hF, hz])
      refine VS.widen [(0, [.d])] (by simp [covers, mpre]) ?_
      (try refine nr ?_);(repeat first|refine nb_ ?_|refine nl_ ?_);refine endK.o [8] [0] [(0, [.d])] ?_;simp [hF, retK, covers, mpre, eH, hc]
      exact ⟨_, rfl⟩
theorem esend_ok (h : Hs) (fl : Nat → Bool) (hok : Hok h) (who to x : Int) : Meets Try.prog 59 [eH h fl] (.cons (.ptr 0 [.d]) (.cons (avInt who) (.cons (avInt to) (.cons (avInt x) .nil))))
  fun av X κ => ∃ fl', av = two (sendE h who to x).2 ∧ X = [eH (sendE h who to x).1 fl'] ∧ κ = [(0, [.d])] := by
 refine fb Try.func59 Try.ntmps59 [.tmp 8, .tmp 9] fun w0 I0 F0 hF => ?_
 repeat first|refine n1 ?_|((first|refine rg 0 [0, 1, 2, 3] [0, 1, 2, 3] [] ?_|refine rg 1 [0, 1, 2, 3] [0, 1, 2, 3, 32] [(4, 21), (10, 27)] ?_);simp (maxSteps := 1000000) [hF])
 cases hr : isR h who with
 | false =>
  have hc : sendE h who to x = (h, 0, 1) := by simp [sendE, hr]
  refine (ewho_c h fl who).go [(0, [])] (by simp (maxSteps := 1000000) [hF, hr, eH]) ?_;rintro av X κ ⟨rfl, rfl, rfl⟩;simp (maxSteps := 1000000) [hF, hr, eH]
  repeat first|refine n1 ?_|((first|refine rg 2 [] [8, 9] [] ?_|refine nc ?_);simp (maxSteps := 1000000) [hF])
  refine VS.widen [(0, [.d])] (by simp [covers, mpre]) ?_
  (try refine nr ?_);(repeat first|refine nb_ ?_|refine nl_ ?_);refine endK.o [8, 9] [0] [(0, [.d])] ?_;simp [hF, retK, covers, mpre, eH, hc]
  exact ⟨_, rfl⟩
 | true =>
  obtain ⟨w, rfl, hwl⟩ := isR_nat hr
  refine (ewho_c h fl w).go [(0, [])] (by simp (maxSteps := 1000000) [hF, hr, eH]) ?_;rintro av X κ ⟨rfl, rfl, rfl⟩;simp (maxSteps := 1000000) [hF, hr, eH]
  cases hr2 : isR h to with
  | false =>
   have hc : sendE h w to x = (h, 0, 1) := by simp [sendE, hr2]
   refine (ewho_c h fl to).go [(0, [])] (by simp (maxSteps := 1000000) [hF, hr2, eH]) ?_;rintro av X κ ⟨rfl, rfl, rfl⟩;simp (maxSteps := 1000000) [hF, hr2, eH]
   repeat first|refine n1 ?_|((first|refine rg 2 [] [8, 9] [] ?_|refine nc ?_);simp (maxSteps := 1000000) [hF])
   refine VS.widen [(0, [.d])] (by simp [covers, mpre]) ?_
   (try refine nr ?_);(repeat first|refine nb_ ?_|refine nl_ ?_);refine endK.o [8, 9] [0] [(0, [.d])] ?_;simp [hF, retK, covers, mpre, eH, hc]
   exact ⟨_, rfl⟩
  | true =>
   obtain ⟨t, rfl, htl⟩ := isR_nat hr2
   refine (ewho_c h fl t).go [(0, [])] (by simp (maxSteps := 1000000) [hF, hr2, eH]) ?_;rintro av X κ ⟨rfl, rfl, rfl⟩;simp (maxSteps := 1000000) [hF, hr2, eH]
   cases ht : isT h x with
   | false =>
    have hc : sendE h w t x = (h, 0, 1) := by simp [sendE, ht]
    refine (ething_c h fl x).go [(0, [])] (by simp (maxSteps := 1000000) [hF, ht, eH]) ?_;rintro av X κ ⟨rfl, rfl, rfl⟩;simp (maxSteps := 1000000) [hF, ht, eH]
    repeat first|refine n1 ?_|((first|refine rg 2 [] [8, 9] [] ?_|refine nc ?_);simp (maxSteps := 1000000) [hF])
    refine VS.widen [(0, [.d])] (by simp [covers, mpre]) ?_
    (try refine nr ?_);(repeat first|refine nb_ ?_|refine nl_ ?_);refine endK.o [8, 9] [0] [(0, [.d])] ?_;simp [hF, retK, covers, mpre, eH, hc]
    exact ⟨_, rfl⟩
   | true =>
    obtain ⟨k, rfl, hk⟩ := isT_nat ht
    refine (ething_c h fl k).go [(0, [])] (by simp (maxSteps := 1000000) [hF, ht, eH]) ?_;rintro av X κ ⟨rfl, rfl, rfl⟩;simp (maxSteps := 1000000) [hF, ht, eH]
    repeat first|refine n1 ?_|refine n2 ?_|((first|refine rg 3 [0, 1, 2, 3] [0, 2, 3, 10] [] ?_|refine nc ?_);simp (maxSteps := 1000000) [hF])
    have hse : (if overB h t = true then 8 else stateOf h w [(k : Int)]) = sendingE h w t k := rfl
    refine (esending_c h fl w t hwl htl k ht).go [(0, [])] (by simp (maxSteps := 1000000) [hF, eH, hse]) ?_;rintro av X κ ⟨rfl, rfl, rfl⟩;simp (maxSteps := 1000000) [hF, eH, hse]
    by_cases hz : sendingE h w t k = 0
    ·have hnr := eRmsF_nth (fl := fl) htl
     have hrl := reachE_len hok false hk
     have hLv : ∀ i, (hi : i < (reachE h.things false (k : Int)).length) → ∃ y : Nat, (reachE h.things false (k : Int))[i] = y ∧ y < h.things.length := fun i hi => reachE_nat hok false hk hi
     repeat first|refine n1 ?_|refine n2 ?_|((first|refine rg 4 [0, 2, 3, 10] [0, 2, 3, 10, 39] [] ?_|refine rg 6 [0, 2, 3] [0, 2, 3, 11] [] ?_|refine nc ?_);simp (maxSteps := 1000000) [hF, hz])
     refine (ereach_c h fl hok false k hk).go [(0, [])] (by simp (maxSteps := 1000000) [hF, eH]) ?_;rintro av X κ ⟨rfl, rfl, rfl⟩;simp (maxSteps := 1000000) [hF, eH]
     repeat first|refine n1 ?_|(refine rg 7 [0, 2, 3, 11] [0, 2, 3, 11, 12] [] ?_;simp (maxSteps := 1000000) [hF, eH])
     refine VS.cool 11 (by simp (maxSteps := 1000000) [hF]) ?_;simp [hF, St.cool]
     generalize hL : reachE h.things false (k : Int) = L at *
     have hbd := hok.things
     have hse2 : h.rooms.set t ⟨h.rooms[t].queue, h.rooms[t].over⟩ = h.rooms := List.set_getElem_self _
     have hs0 := eRmsF_set fl h.rooms t h.rooms[t].queue h.rooms[t].over false
     rw [hse2] at hs0
     have hnr2 := eRmsF_nth (fl := flSet fl t false) htl
     rw [show flSet fl t false t = false by simp [flSet]] at hnr2
     refine VS.cold 0 [.d, .f 1, .i t, .f 1] (by simp (maxSteps := 1000000) [hF, hnr, htl, T.freeze, hs0, eH]) (by simp (maxSteps := 1000000) [hF, hnr, htl, T.freeze, hs0, eH]) (by simp (maxSteps := 1000000) [hF, hnr, htl, T.freeze, hs0, eH]) ?_;simp [hF, St.cold, hnr, htl, T.freeze, hs0, eH]
     by_cases hq : 50 ≤ h.rooms[t].queue.length
     ·have hqi : (50 : Int) ≤ h.rooms[t].queue.length := by omega
      have hc : sendE h w t k = (h, 0, 9) := by simp [sendE, hr, hr2, ht, hL, hz, htl, hq]
      repeat first|refine n1 ?_|((first|refine rg 8 [0, 2, 3, 11, 12] [0, 2, 3, 11, 12, 65] [(10, 59)] ?_|refine rg 9 [] [8, 9] [] ?_|refine nc ?_);simp (maxSteps := 1000000) [hF, hnr2, htl, hqi, hs0, eH])
      refine VS.widen [(0, [.d])] (by simp [covers, mpre]) ?_
      (try refine nr ?_);(repeat first|refine nb_ ?_|refine nl_ ?_);refine endK.o [8, 9] [0] [(0, [.d])] ?_;simp [hF, retK, covers, mpre, eH, hc]
      exact ⟨_, rfl⟩
     ·have hqi : ¬ (50 : Int) ≤ h.rooms[t].queue.length := by omega
      have hw1 : IntKind.i64.wrap ((h.things.length : Int) + L.length) = h.things.length + L.length := IntWalk.i64_in _ (by omega)
      by_cases hf : 400 < h.things.length + L.length
      ·have hfi : (400 : Int) < h.things.length + L.length := by omega
       have hc : sendE h w t k = (h, 0, 9) := by simp [sendE, hr, hr2, ht, hL, hz, htl, hq, hf]
       repeat first|refine n1 ?_|((first|refine rg 8 [0, 2, 3, 11, 12] [0, 2, 3, 11, 12, 65] [(10, 59)] ?_|refine rg 9 [] [8, 9] [] ?_|refine nc ?_);simp (maxSteps := 1000000) [hF, hnr2, htl, hqi, hs0, eH, hw1, hfi])
       refine VS.widen [(0, [.d])] (by simp [covers, mpre]) ?_
       (try refine nr ?_);(repeat first|refine nb_ ?_|refine nl_ ?_);refine endK.o [8, 9] [0] [(0, [.d])] ?_;simp [hF, retK, covers, mpre, eH, hc]
       exact ⟨_, rfl⟩
      ·have hfi : ¬ (400 : Int) < h.things.length + L.length := by omega
       obtain ⟨CS, hCS⟩ : ∃ CS, CS = L.map fun y => copyT L h.things.length t (gd h.things y) := ⟨_, rfl⟩
       have hCl : CS.length = L.length := by simp [hCS]
       have hnd : L.Nodup := by subst hL; exact rV_nodup _ _ _ (by simp)
       repeat first|refine n1 ?_|refine n2 ?_|refine n3 ?_|((first|refine rg 8 [0, 2, 3, 11, 12] [0, 2, 3, 11, 12, 65] [(10, 59)] ?_|refine rg 10 [0, 2, 3, 11, 12] [0, 2, 3, 11, 12, 13] [] ?_|refine nc ?_);simp (maxSteps := 1000000) [hF, hnr2, htl, hqi, hs0, eH, hw1, hfi])
       refine VS.widen [(0, [.d])] (by simp [covers, mpre]) ?_
       refine VS.pick [0, 2, 3, 11, 12, 13] [0] (by simp [hF]) ?_;simp [hF]
       refine VS.rounds (fun m st => ∃ (i : Nat) (P : List Tg), i + m = L.length ∧ P = h.things ++ CS.take i ∧ st = ⟨[(0, .ptr 0 [.d]), (2, avInt t), (3, avInt k), (11, .imm 1 (dInts L) false), (12, avInt h.things.length), (13, avInt i)],
        [eH ⟨h.rooms, P⟩ (flSet fl t false)], [(0, [.d])], []⟩) ⟨L.length, 0, h.things, by omega, by simp, by simp [eH]⟩ ?_
       rintro m st ⟨i, P, hi, hP, rfl⟩
       have hPl : P.length = h.things.length + i := by rw [hP, List.length_append, List.length_take]; omega
       repeat first|refine n1 ?_|((first|refine rg 11 [0, 2, 3, 11, 12, 13] [0, 2, 3, 11, 12, 13, 69] [] ?_|refine nc ?_);simp (maxSteps := 1000000) [hF])
       refine ⟨fun hlt => ?_, fun hge => ?_⟩
       ·obtain ⟨y, hy, hyl⟩ := hLv i hlt
        have hyP : y < P.length := by omega
        have hn2 := eTgs_nth (o := true) hyP
        have hPy : P[y] = h.things[y] := by subst hP; rw [List.getElem_append_left hyl]
        rw [hPy] at hn2
        have hil := hok.few _ (List.getElem_mem hyl)
        have hin : (dInts L).nth i = .val (.int .i64 y) := by rw [dInts_nth hlt, hy]
        obtain ⟨IS, hIS⟩ : ∃ IS, IS = h.things[y].items := ⟨_, rfl⟩
        obtain ⟨MS, hMS⟩ : ∃ MS, MS = IS.map (placeOf L h.things.length) := ⟨_, rfl⟩
        have hMl : MS.length = IS.length := by simp [hMS]
        rw [← hIS] at hn2 hil
        have hsame := setN_of hn2
        repeat first|refine n1 ?_|refine n2 ?_|refine n3 ?_|((first|(refine dr 13 0 [0, 2, 3, 11, 12, 13] [0, 2, 3, 11, 12, 13, 14] [] [⟨0, 1, 4722366482869645213696, 5⟩, ⟨1, 4722366482869645213696, 9444732965739290427392, 5⟩, ⟨2, 9444732965739290427392, 18889465931478580854784, 5⟩, ⟨4, 18889465931478580854784, 37778931862957161709568, 6⟩, ⟨0, 2048, 75557863725914323419136, 5⟩, ⟨0, 8192, 151115727451828646838272, 5⟩, ⟨48, 226673591177742970257408, 302231454903657293676544, 5⟩, ⟨64, 302231454903657293676544, 604462909807314587353088, 6⟩, ⟨136, 642241841670271749062656, 1208925819614629174706176, 5⟩, ⟨256, 1208925819614629174706176, 2417851639229258349412352, 6⟩, ⟨0, 0, 16384, 4⟩, ⟨2047, 2417851639229258349428736, 0, 0⟩] (.take 0 (.take 1 (.take 2 (.take 3 (.take 4 (.take 5 (.take 6 (.take 7 (.take 8 (.take 9 (.fork (.alt 10 (.fork (.alt 11 (.done) (.nil))) (.nil))))))))))))) (.run [0, 1, 2, 3, 4, 5, 6, 7, 8, 9, 10, 11] (.done)) ?_;simp only [drs])|refine rg 14 [0, 2, 3, 11, 12, 13, 14] [0, 2, 3, 11, 12, 13, 14] [] ?_|refine rg 15 [0, 2, 3, 11, 12, 13, 14] [0, 2, 3, 11, 12, 13, 14] [] ?_);simp (maxSteps := 1000000) [hF, hin, hlt, eH, hn2, hyP])
        refine (eown_r false IS (by omega)).go [(0, [.d, .f 2, .i y, .f 4])] (by simp (maxSteps := 1000000) [hF, hn2, hyP, hin, hlt, eH, hsame]) ?_;rintro av X κ ⟨rfl, rfl, rfl⟩;simp (maxSteps := 1000000) [hF, hn2, hyP, hin, hlt, eH, hsame]
        repeat first|refine n1 ?_|refine n3 ?_|(refine rg 16 [0, 2, 3, 11, 12, 13, 14] [0, 2, 3, 11, 12, 13, 14, 15] [] ?_;simp (maxSteps := 1000000) [hF, hn2, hyP, hsame])
        refine VS.pick [0, 2, 3, 11, 12, 13, 14, 15] [0, 1] (by simp [hF]) ?_;simp [hF]
        refine VS.rounds (fun m2 st => ∃ (j : Nat) (cur : List Int), j + m2 = IS.length ∧ cur = MS.take j ++ IS.drop j ∧ st = ⟨[(0, .ptr 0 [.d]), (2, avInt t), (3, avInt k), (11, .imm 1 (dInts L) false), (12, avInt h.things.length), (13, avInt i), (14, .ptr 1 [.d]), (15, avInt j)],
         [eH ⟨h.rooms, P⟩ (flSet fl t false), .box true () (.agg (.cons (.val (.bool h.things[y].list)) (.cons (.val (.bool h.things[y].frozen)) (.cons (.val (.int .i64 h.things[y].word)) (.cons (.val (.int .i64 t)) (.cons (.sl true () 1 (dInts cur)) .nil))))))], [(0, [.d])], []⟩)
         ⟨IS.length, 0, IS, by omega, by simp, by simp [eH]⟩ ?_
        rintro m2 st ⟨j, cur, hj, hcur, rfl⟩
        have hcl : cur.length = IS.length := by rw [hcur, List.length_append, List.length_take, List.length_drop]; omega
        repeat first|refine n1 ?_|((first|refine rg 17 [0, 2, 3, 11, 12, 13, 14, 15] [0, 2, 3, 11, 12, 13, 14, 15, 92] [] ?_|refine nc ?_);simp (maxSteps := 1000000) [hF])
        refine ⟨fun hlt2 => ?_, fun hge2 => ?_⟩
        ·have hj' : j < IS.length := by omega
         have hIj := dInts_nth hj'
         obtain ⟨Z, hZ⟩ : ∃ Z, Z = IS[j] := ⟨_, rfl⟩
         rw [← hZ] at hIj
         have hcj : cur[j]'(by omega) = Z := by
          have : cur[j]? = some IS[j] := by
           rw [hcur, List.getElem?_append_right (by rw [List.length_take]; omega), List.getElem?_drop, List.getElem?_eq_getElem (by rw [List.length_take]; omega)]
           congr 2; rw [List.length_take]; omega
          rw [(List.getElem_eq_iff _).2 this, hZ]
         have hMj : cur.set j (placeOf L h.things.length Z) = MS.take (j + 1) ++ IS.drop (j + 1) := by
          rw [hcur, List.set_append_right _ _ (by rw [List.length_take]; omega), List.length_take, Nat.min_eq_left (by omega), Nat.sub_self, List.drop_eq_getElem_cons hj', List.set_cons_zero, List.take_add_one, List.getElem?_eq_getElem (by omega)]
          simp [hMS, hZ]
         repeat first|refine n1 ?_|refine n2 ?_|refine n3 ?_|(refine rg 19 [0, 2, 3, 11, 12, 13, 14, 15] [0, 2, 3, 11, 12, 13, 14, 15, 16] [] ?_;simp (maxSteps := 1000000) [hF])
         refine VS.rounds (fun m3 st => ∃ (q : Nat) (cu2 : List Int), q + m3 = L.length ∧ cu2 = (if 0 ≤ ixE L Z ∧ ixE L Z < q then cur.set j (h.things.length + ixE L Z) else cur) ∧ st = ⟨[(0, .ptr 0 [.d]), (2, avInt t), (3, avInt k), (11, .imm 1 (dInts L) false), (12, avInt h.things.length), (13, avInt i), (14, .ptr 1 [.d]), (15, avInt j), (16, avInt q)],
          [eH ⟨h.rooms, P⟩ (flSet fl t false), .box true () (.agg (.cons (.val (.bool h.things[y].list)) (.cons (.val (.bool h.things[y].frozen)) (.cons (.val (.int .i64 h.things[y].word)) (.cons (.val (.int .i64 t)) (.cons (.sl true () 1 (dInts cu2)) .nil))))))], [(0, [.d])], []⟩)
          ⟨L.length, 0, cur, by omega, by rw [if_neg (by omega)], by simp [eH]⟩ ?_
         rintro m3 st ⟨q, cu2, hq3, hcu2, rfl⟩
         have hcl2 : cu2.length = IS.length := by rw [hcu2]; split <;> simp [hcl]
         repeat first|refine n1 ?_|((first|refine rg 20 [0, 2, 3, 11, 12, 13, 14, 15, 16] [0, 2, 3, 11, 12, 13, 14, 15, 16, 98] [] ?_|refine nc ?_);simp (maxSteps := 1000000) [hF])
         refine ⟨fun hlt3 => ?_, fun hge3 => ?_⟩
         ·have hLq := dInts_nth hlt3
          have hw3 : IntKind.i64.wrap ((q : Int) + 1) = (q + 1 : Nat) := by rw [IntWalk.i64_in _ (by omega)]; rfl
          have hw4 : IntKind.i64.wrap ((h.things.length : Int) + q) = h.things.length + q := IntWalk.i64_in _ (by omega)
          have hjc : j < cu2.length := by omega
          by_cases hEq : L[q] = Z
          ·have hix : ixE L Z = q := by rw [← hEq]; exact ixE_eq hnd hlt3
           have hc0 : cu2 = cur := by rw [hcu2, if_neg (by omega)]
           have hs2 : cu2.set j ((h.things.length : Int) + q) = if 0 ≤ ixE L Z ∧ ixE L Z < (q + 1 : Nat) then cur.set j (h.things.length + ixE L Z) else cur := by rw [if_pos (by omega), hix, hc0]
           have hs3 := dInts_set cu2 j ((h.things.length : Int) + q)
           have hnj := dInts_nth hjc
           repeat first|refine n1 ?_|refine n2 ?_|refine n3 ?_|refine n4 ?_|refine n5 ?_|refine n6 ?_|((first|refine rg 21 [0, 2, 3, 11, 12, 13, 14, 15, 16] [0, 2, 3, 11, 12, 13, 14, 15, 16] [] ?_|(refine dr 22 0 [0, 2, 3, 11, 12, 13, 14, 15, 16] [0, 2, 3, 11, 12, 13, 14, 15, 16, 119] [] [⟨0, 2048, 2535301200456458802993406410752, 5⟩, ⟨0, 65536, 5070602400912917605986812821504, 5⟩, ⟨3, 7605903601369376408980219232256, 10141204801825835211973625643008, 5⟩, ⟨4, 10141204801825835211973625643008, 20282409603651670423947251286016, 6⟩, ⟨0, 1, 40564819207303340847894502572032, 5⟩, ⟨16, 40564819207303340847894502572032, 81129638414606681695789005144064, 5⟩, ⟨32, 81129638414606681695789005144064, 162259276829213363391578010288128, 5⟩, ⟨64, 162259276829213363391578010288128, 324518553658426726783156020576256, 6⟩, ⟨0, 2048, 649037107316853453566312041152512, 5⟩, ⟨0, 8192, 1298074214633706907132624082305024, 5⟩, ⟨768, 1947111321950560360698936123457536, 2596148429267413814265248164610048, 5⟩, ⟨1024, 2596148429267413814265248164610048, 5192296858534827628530496329220096, 6⟩, ⟨2176, 5516815412193254355313652349796352, 10384593717069655257060992658440192, 5⟩, ⟨4096, 10384593717069655257060992658440192, 20769187434139310514121985316880384, 5⟩, ⟨8192, 20769187434139310514121985316880384, 41538374868278621028243970633760768, 6⟩, ⟨0, 32768, 83076749736557242056487941267521536, 5⟩, ⟨49152, 124615124604835863084731911901282304, 166153499473114484112975882535043072, 5⟩, ⟨65536, 166153499473114484112975882535043072, 332306998946228968225951765070086144, 6⟩, ⟨131080, 332327281355832619896375712321372160, 664613997892457936451903530140172288, 5⟩] (.take 0 (.take 1 (.take 2 (.take 3 (.take 4 (.take 5 (.take 6 (.take 7 (.take 8 (.take 9 (.take 10 (.take 11 (.take 12 (.take 13 (.take 14 (.take 15 (.take 16 (.take 17 (.take 18 (.done)))))))))))))))))))) (.run [0, 1, 2, 3, 4, 5, 6, 7, 8, 9, 10, 11, 12, 13, 14, 15, 16, 17, 18] (.done)) ?_;simp only [drs])|refine rg 23 [0, 2, 3, 11, 12, 13, 14, 15, 16] [0, 2, 3, 11, 12, 13, 14, 15, 16] [] ?_|refine nc ?_);simp (maxSteps := 1000000) [hF, hLq, hlt3, hin, hlt, eH, hn2, hyP, hIj, hj', hEq, hcl2, hw3, hw4, hs3, hjc, hnj])
           refine nextK.of [0, 2, 3, 11, 12, 13, 14, 15, 16] [0, 1] (m3 - 1) (by omega) (by simp [hF]) ?_
           refine ⟨q + 1, cu2.set j ((h.things.length : Int) + q), by omega, hs2, ?_⟩
           simp [eH]
          ·have hix := ixE_ne hlt3 hEq
           have hs2 : cu2 = if 0 ≤ ixE L Z ∧ ixE L Z < (q + 1 : Nat) then cur.set j (h.things.length + ixE L Z) else cur := by
            rw [hcu2]
            by_cases h9 : 0 ≤ ixE L Z ∧ ixE L Z < q
            ·rw [if_pos h9, if_pos (by omega)]
            ·rw [if_neg h9, if_neg (by omega)]
           repeat first|refine n1 ?_|refine n2 ?_|refine n3 ?_|refine n4 ?_|refine n5 ?_|refine n6 ?_|((first|refine rg 21 [0, 2, 3, 11, 12, 13, 14, 15, 16] [0, 2, 3, 11, 12, 13, 14, 15, 16] [] ?_|(refine dr 22 0 [0, 2, 3, 11, 12, 13, 14, 15, 16] [0, 2, 3, 11, 12, 13, 14, 15, 16, 119] [] [⟨0, 2048, 2535301200456458802993406410752, 5⟩, ⟨0, 65536, 5070602400912917605986812821504, 5⟩, ⟨3, 7605903601369376408980219232256, 10141204801825835211973625643008, 5⟩, ⟨4, 10141204801825835211973625643008, 20282409603651670423947251286016, 6⟩, ⟨0, 1, 40564819207303340847894502572032, 5⟩, ⟨16, 40564819207303340847894502572032, 81129638414606681695789005144064, 5⟩, ⟨32, 81129638414606681695789005144064, 162259276829213363391578010288128, 5⟩, ⟨64, 162259276829213363391578010288128, 324518553658426726783156020576256, 6⟩, ⟨0, 2048, 649037107316853453566312041152512, 5⟩, ⟨0, 8192, 1298074214633706907132624082305024, 5⟩, ⟨768, 1947111321950560360698936123457536, 2596148429267413814265248164610048, 5⟩, ⟨1024, 2596148429267413814265248164610048, 5192296858534827628530496329220096, 6⟩, ⟨2176, 5516815412193254355313652349796352, 10384593717069655257060992658440192, 5⟩, ⟨4096, 10384593717069655257060992658440192, 20769187434139310514121985316880384, 5⟩, ⟨8192, 20769187434139310514121985316880384, 41538374868278621028243970633760768, 6⟩, ⟨0, 32768, 83076749736557242056487941267521536, 5⟩, ⟨49152, 124615124604835863084731911901282304, 166153499473114484112975882535043072, 5⟩, ⟨65536, 166153499473114484112975882535043072, 332306998946228968225951765070086144, 6⟩, ⟨131080, 332327281355832619896375712321372160, 664613997892457936451903530140172288, 5⟩] (.take 0 (.take 1 (.take 2 (.take 3 (.take 4 (.take 5 (.take 6 (.take 7 (.take 8 (.take 9 (.take 10 (.take 11 (.take 12 (.take 13 (.take 14 (.take 15 (.take 16 (.take 17 (.take 18 (.done)))))))))))))))))))) (.run [0, 1, 2, 3, 4, 5, 6, 7, 8, 9, 10, 11, 12, 13, 14, 15, 16, 17, 18] (.done)) ?_;simp only [drs])|refine nc ?_);simp (maxSteps := 1000000) [hF, hLq, hlt3, hin, hlt, eH, hn2, hyP, hIj, hj', hEq, hw3])
           refine nextK.of [0, 2, 3, 11, 12, 13, 14, 15, 16] [0, 1] (m3 - 1) (by omega) (by simp [hF]) ?_
           refine ⟨q + 1, cu2, by omega, hs2, ?_⟩
           simp [eH]
         ·have hfin : cu2 = MS.take (j + 1) ++ IS.drop (j + 1) := by
           rw [← hMj, hcu2, placeOf]
           have hb := ixE_bd L Z
           by_cases h9 : 0 ≤ ixE L Z
           ·rw [if_pos (by omega), if_pos h9]
           ·rw [if_neg (by omega), if_neg h9, ← hcj, List.set_getElem_self]
          have hw3 : IntKind.i64.wrap ((j : Int) + 1) = (j + 1 : Nat) := by rw [IntWalk.i64_in _ (by omega)]; rfl
          repeat first|refine n4 ?_|refine n5 ?_|refine n6 ?_|refine n7 ?_|(refine rg 18 [0, 2, 3, 11, 12, 13, 14, 15] [0, 2, 3, 11, 12, 13, 14, 15] [] ?_;simp (maxSteps := 1000000) [hF, hw3])
          refine nextK.of [0, 2, 3, 11, 12, 13, 14, 15] [0, 1] (m2 - 1) (by omega) (by simp [hF]) ?_
          refine ⟨j + 1, cu2, by omega, hfin, ?_⟩
          simp [eH]
        ·have hcf : cur = MS := by rw [hcur, List.take_of_length_le (by omega), List.drop_of_length_le (by omega), List.append_nil]
         subst hcf
         have hcy : copyT L h.things.length t h.things[y] = ⟨t, h.things[y].list, h.things[y].word, cur, h.things[y].frozen⟩ := by rw [copyT, ← hIS, hMS]
         have hP2 : P ++ [(⟨(t : Int), h.things[y].list, h.things[y].word, cur, h.things[y].frozen⟩ : Tg)] = h.things ++ CS.take (i + 1) := by
          rw [hP, List.append_assoc, List.take_add_one, List.getElem?_eq_getElem (by omega)]
          simp [hCS, hy, hyl, hcy]
         have hp := eTgs_push true P t h.things[y].list h.things[y].word cur h.things[y].frozen
         have hm := etgs_mid P ⟨t, h.things[y].list, h.things[y].word, cur, h.things[y].frozen⟩
         have hm2 : (dInts cur).mid 0 cur.length = dInts cur := by simp
         have hw4 : IntKind.i64.wrap ((i : Int) + 1) = (i + 1 : Nat) := by rw [IntWalk.i64_in _ (by omega)]; rfl
         have c1 : (P.length + 1) * 56 ≤ 140737488355328 := by omega
         have c1' : (P.length + 1) * 48 ≤ 140737488355328 := by omega
         have c2 : P.length ≤ 9223372036854775806 := by omega
         repeat first|refine n7 ?_|refine n8 ?_|refine n0 ?_
         refine ghostL 1 [.d, .f 4] ?_;simp (maxSteps := 1000000) [hF, St.lift, AV.lift, liftPl, stripP, nodeAV, isNode]
         refine ghostL 0 [.d, .f 2] ?_;simp (maxSteps := 1000000) [hF, St.lift, AV.lift, liftPl, stripP, nodeAV, isNode, eH]
         repeat first|refine n4 ?_|refine n5 ?_|((refine dr 24 0 [0, 2, 3, 11, 12, 13, 14] [0, 2, 3, 11, 12, 13] [] [⟨0, 1, 170141183460469231731687303715884105728, 5⟩, ⟨0, 1, 340282366920938463463374607431768211456, 5⟩, ⟨2, 340282366920938463463374607431768211456, 680564733841876926926749214863536422912, 5⟩, ⟨4, 680564733841876926926749214863536422912, 1361129467683753853853498429727072845824, 5⟩, ⟨8, 1361129467683753853853498429727072845824, 2722258935367507707706996859454145691648, 6⟩, ⟨0, 16384, 5444517870735015415413993718908291383296, 6⟩, ⟨32, 5444517870735015415413993718908291383296, 10889035741470030830827987437816582766592, 4⟩, ⟨80, 13611294676837538538534984297270728458240, 21778071482940061661655974875633165533184, 0⟩, ⟨255, 170141183460469231731687303715884105728, 43556142965880123323311949751266331066368, 5⟩, ⟨511, 43556142965880123323311949751266331066368, 87112285931760246646623899502532662132736, 5⟩, ⟨767, 108890357414700308308279874378165827665920, 0, 0⟩] (.take 0 (.take 1 (.take 2 (.take 3 (.take 4 (.take 5 (.fork (.alt 6 (.fork (.alt 7 (.take 8 (.take 9 (.fork (.alt 10 (.done) (.nil))))) (.nil))) (.nil))))))))) (.run [0, 1, 2, 3, 4, 5, 6, 7, 8, 9, 10] (.done)) ?_;simp only [drs]);simp (maxSteps := 1000000) [hF, hp, hm, hm2, hw4, c1, c1', c2])
         refine VS.widen [(0, [.d])] (by simp [covers, mpre]) ?_
         repeat first|refine n4 ?_|refine n6 ?_|(refine rg 12 [0, 2, 3, 11, 12, 13] [0, 2, 3, 11, 12, 13] [] ?_;simp (maxSteps := 1000000) [hF, hw4])
         refine nextK.of [0, 2, 3, 11, 12, 13] [0] (m - 1) (by omega) (by simp [hF]) ?_
         refine ⟨i + 1, _, by omega, hP2, ?_⟩
         simp [eH]
       ·have hPf : P = h.things ++ CS := by rw [hP, List.take_of_length_le (by omega)]
        have hp := dInts_app1 h.rooms[t].queue
        have hm : ∀ z : Int, (dInts (h.rooms[t].queue ++ [z])).mid 0 (h.rooms[t].queue.length + 1) = dInts (h.rooms[t].queue ++ [z]) := fun z => sq_mid_all _ _ (by simp)
        have hm0 : (dInts h.rooms[t].queue).mid 0 h.rooms[t].queue.length = dInts h.rooms[t].queue := by simp
        have c1 : (h.rooms[t].queue.length + 1) * 8 ≤ 140737488355328 := by omega
        have c2 : h.rooms[t].queue.length ≤ 9223372036854775806 := by omega
        have hs3 : ∀ z : Int, _ := fun z => eRmsF_set (flSet fl t false) h.rooms t (h.rooms[t].queue ++ [z]) h.rooms[t].over true
        have hq8 : h.rooms[t].queue.length ≤ 100000000 := by omega
        have hpu : ∀ (T : List Tg) (z : Int), putOf { h with things := T } t z = ⟨h.rooms.set t ⟨h.rooms[t].queue ++ [z], h.rooms[t].over⟩, T⟩ := fun T z => by simp [putOf, setRm, htl]
        by_cases h0 : 0 < L.length
        ·have hne : ¬ L = [] := List.length_pos_iff.1 h0
         have hc : sendE h w t k = (⟨h.rooms.set t ⟨h.rooms[t].queue ++ [(h.things.length : Int)], h.rooms[t].over⟩, h.things ++ CS⟩, (h.things.length : Int), 0) := by
          simp [sendE, hr, hr2, ht, hL, hz, htl, hq, hf, hne, ← hCS, hpu]
         repeat first|refine n1 ?_|refine n7 ?_|((first|refine rg 25 [0, 2, 3, 11, 12] [0, 2, 3, 12, 139] [] ?_|refine rg 26 [0, 2, 12] [0, 2, 3] [] ?_|(refine dr 27 0 [0, 2, 3] [3] [] [⟨0, 1, 2787593149816327892691964784081045188247552, 5⟩, ⟨1, 2787593149816327892691964784081045188247552, 5575186299632655785383929568162090376495104, 5⟩, ⟨2, 5575186299632655785383929568162090376495104, 11150372599265311570767859136324180752990208, 5⟩, ⟨4, 11150372599265311570767859136324180752990208, 22300745198530623141535718272648361505980416, 6⟩, ⟨0, 4, 44601490397061246283071436545296723011960832, 5⟩, ⟨0, 1, 89202980794122492566142873090593446023921664, 5⟩, ⟨32, 89202980794122492566142873090593446023921664, 178405961588244985132285746181186892047843328, 5⟩, ⟨64, 178405961588244985132285746181186892047843328, 356811923176489970264571492362373784095686656, 5⟩, ⟨128, 356811923176489970264571492362373784095686656, 713623846352979940529142984724747568191373312, 6⟩, ⟨0, 4, 1427247692705959881058285969449495136382746624, 5⟩, ⟨768, 2140871539058939821587428954174242704574119936, 2854495385411919762116571938898990272765493248, 5⟩, ⟨1024, 2854495385411919762116571938898990272765493248, 5708990770823839524233143877797980545530986496, 5⟩, ⟨2048, 5708990770823839524233143877797980545530986496, 11417981541647679048466287755595961091061972992, 6⟩, ⟨4096, 11417981541647679048466287755595961091061972992, 22835963083295358096932575511191922182123945984, 0⟩, ⟨0, 8, 45671926166590716193865151022383844364247891968, 5⟩, ⟨16384, 45671926166590716193865151022383844364247891968, 91343852333181432387730302044767688728495783936, 4⟩, ⟨40960, 114179815416476790484662877555959610910619729920, 182687704666362864775460604089535377456991567872, 0⟩, ⟨131071, 66902235595591869424607154817945084517941248, 365375409332725729550921208179070754913983135744, 5⟩, ⟨262143, 365375409332725729550921208179070754913983135744, 730750818665451459101842416358141509827966271488, 5⟩, ⟨393215, 913438523331814323877303020447676887284957839360, 0, 0⟩] (.take 0 (.take 1 (.take 2 (.take 4 (.take 5 (.take 6 (.take 7 (.take 8 (.take 9 (.take 10 (.take 11 (.take 12 (.take 14 (.fork (.alt 3 (.fork (.alt 13 (.fork (.alt 15 (.fork (.alt 16 (.take 17 (.take 18 (.fork (.alt 19 (.done) (.nil))))) (.nil))) (.nil))) (.alt 15 (.fork (.alt 13 (.fork (.alt 16 (.take 17 (.take 18 (.fork (.alt 19 (.done) (.nil))))) (.nil))) (.nil))) (.nil)))) (.alt 13 (.fork (.alt 3 (.fork (.alt 15 (.fork (.alt 16 (.take 17 (.take 18 (.fork (.alt 19 (.done) (.nil))))) (.nil))) (.nil))) (.alt 15 (.fork (.alt 3 (.fork (.alt 16 (.take 17 (.take 18 (.fork (.alt 19 (.done) (.nil))))) (.nil))) (.alt 16 (.take 3 (.take 17 (.take 18 (.fork (.alt 19 (.done) (.nil)))))) (.nil)))) (.nil)))) (.alt 15 (.fork (.alt 3 (.fork (.alt 13 (.fork (.alt 16 (.take 17 (.take 18 (.fork (.alt 19 (.done) (.nil))))) (.nil))) (.nil))) (.alt 13 (.fork (.alt 3 (.fork (.alt 16 (.take 17 (.take 18 (.fork (.alt 19 (.done) (.nil))))) (.nil))) (.alt 16 (.take 3 (.take 17 (.take 18 (.fork (.alt 19 (.done) (.nil)))))) (.nil)))) (.nil)))) (.nil)))))))))))))))))) (.run [0, 1, 2, 4, 5, 6, 7, 8, 9, 10, 11, 12, 14] (.both (.run [3] (.both (.run [13, 15, 16, 17, 18, 19] (.done)) (.run [15, 13, 16, 17, 18, 19] (.done)))) (.both (.run [13] (.both (.run [3, 15, 16, 17, 18, 19] (.done)) (.run [15] (.both (.run [3, 16, 17, 18, 19] (.done)) (.run [16, 3, 17, 18, 19] (.done)))))) (.run [15] (.both (.run [3, 13, 16, 17, 18, 19] (.done)) (.run [13] (.both (.run [3, 16, 17, 18, 19] (.done)) (.run [16, 3, 17, 18, 19] (.done))))))))) ?_;simp only [drs])|refine nc ?_);simp (maxSteps := 1000000) [hF, eH, hnr2, htl, h0])
         all_goals (repeat' refine And.intro ?_ ?_)
         all_goals (refine (eown_ok false h.rooms[t].queue hq8).go [] (by simp (maxSteps := 1000000) [hF, hnr2, htl, hm0, hp, hm, c1, c2, hs3]) ?_;rintro av X κ ⟨rfl, rfl, rfl⟩;simp (maxSteps := 1000000) [hF, hnr2, htl, hm0, hp, hm, c1, c2, hs3])
         all_goals (repeat' refine And.intro ?_ ?_)
         all_goals (repeat first|refine n1 ?_|(refine rg 28 [3] [8, 9] [] ?_;simp (maxSteps := 1000000) [hF, hnr2, htl, hm0, hp, hm, c1, c2, hs3]))
         all_goals (refine VS.widen [(0, [.d])] (by simp [covers, mpre]) ?_)
         all_goals ((try refine nr ?_);(repeat first|refine nb_ ?_|refine nl_ ?_);refine endK.o [8, 9] [0] [(0, [.d])] ?_;simp [hF, retK, covers, mpre, eH, hc, hPf])
         all_goals exact ⟨_, rfl⟩
        ·have hne : L = [] := List.eq_nil_of_length_eq_zero (by omega)
         have hCn : CS = [] := List.eq_nil_of_length_eq_zero (by omega)
         have hc : sendE h w t k = (⟨h.rooms.set t ⟨h.rooms[t].queue ++ [(k : Int)], h.rooms[t].over⟩, h.things⟩, (k : Int), 0) := by
          have hf0 : ¬ 400 < h.things.length := by omega
          simp [sendE, hr, hr2, ht, hL, hz, htl, hq, hf0, hne, hpu]
         have hPh : P = h.things := by rw [hPf, hCn, List.append_nil]
         repeat first|refine n1 ?_|refine n2 ?_|refine n7 ?_|((first|refine rg 25 [0, 2, 3, 11, 12] [0, 2, 3, 12, 139] [] ?_|(refine dr 27 0 [0, 2, 3] [3] [] [⟨0, 1, 2787593149816327892691964784081045188247552, 5⟩, ⟨1, 2787593149816327892691964784081045188247552, 5575186299632655785383929568162090376495104, 5⟩, ⟨2, 5575186299632655785383929568162090376495104, 11150372599265311570767859136324180752990208, 5⟩, ⟨4, 11150372599265311570767859136324180752990208, 22300745198530623141535718272648361505980416, 6⟩, ⟨0, 4, 44601490397061246283071436545296723011960832, 5⟩, ⟨0, 1, 89202980794122492566142873090593446023921664, 5⟩, ⟨32, 89202980794122492566142873090593446023921664, 178405961588244985132285746181186892047843328, 5⟩, ⟨64, 178405961588244985132285746181186892047843328, 356811923176489970264571492362373784095686656, 5⟩, ⟨128, 356811923176489970264571492362373784095686656, 713623846352979940529142984724747568191373312, 6⟩, ⟨0, 4, 1427247692705959881058285969449495136382746624, 5⟩, ⟨768, 2140871539058939821587428954174242704574119936, 2854495385411919762116571938898990272765493248, 5⟩, ⟨1024, 2854495385411919762116571938898990272765493248, 5708990770823839524233143877797980545530986496, 5⟩, ⟨2048, 5708990770823839524233143877797980545530986496, 11417981541647679048466287755595961091061972992, 6⟩, ⟨4096, 11417981541647679048466287755595961091061972992, 22835963083295358096932575511191922182123945984, 0⟩, ⟨0, 8, 45671926166590716193865151022383844364247891968, 5⟩, ⟨16384, 45671926166590716193865151022383844364247891968, 91343852333181432387730302044767688728495783936, 4⟩, ⟨40960, 114179815416476790484662877555959610910619729920, 182687704666362864775460604089535377456991567872, 0⟩, ⟨131071, 66902235595591869424607154817945084517941248, 365375409332725729550921208179070754913983135744, 5⟩, ⟨262143, 365375409332725729550921208179070754913983135744, 730750818665451459101842416358141509827966271488, 5⟩, ⟨393215, 913438523331814323877303020447676887284957839360, 0, 0⟩] (.take 0 (.take 1 (.take 2 (.take 4 (.take 5 (.take 6 (.take 7 (.take 8 (.take 9 (.take 10 (.take 11 (.take 12 (.take 14 (.fork (.alt 3 (.fork (.alt 13 (.fork (.alt 15 (.fork (.alt 16 (.take 17 (.take 18 (.fork (.alt 19 (.done) (.nil))))) (.nil))) (.nil))) (.alt 15 (.fork (.alt 13 (.fork (.alt 16 (.take 17 (.take 18 (.fork (.alt 19 (.done) (.nil))))) (.nil))) (.nil))) (.nil)))) (.alt 13 (.fork (.alt 3 (.fork (.alt 15 (.fork (.alt 16 (.take 17 (.take 18 (.fork (.alt 19 (.done) (.nil))))) (.nil))) (.nil))) (.alt 15 (.fork (.alt 3 (.fork (.alt 16 (.take 17 (.take 18 (.fork (.alt 19 (.done) (.nil))))) (.nil))) (.alt 16 (.take 3 (.take 17 (.take 18 (.fork (.alt 19 (.done) (.nil)))))) (.nil)))) (.nil)))) (.alt 15 (.fork (.alt 3 (.fork (.alt 13 (.fork (.alt 16 (.take 17 (.take 18 (.fork (.alt 19 (.done) (.nil))))) (.nil))) (.nil))) (.alt 13 (.fork (.alt 3 (.fork (.alt 16 (.take 17 (.take 18 (.fork (.alt 19 (.done) (.nil))))) (.nil))) (.alt 16 (.take 3 (.take 17 (.take 18 (.fork (.alt 19 (.done) (.nil)))))) (.nil)))) (.nil)))) (.nil)))))))))))))))))) (.run [0, 1, 2, 4, 5, 6, 7, 8, 9, 10, 11, 12, 14] (.both (.run [3] (.both (.run [13, 15, 16, 17, 18, 19] (.done)) (.run [15, 13, 16, 17, 18, 19] (.done)))) (.both (.run [13] (.both (.run [3, 15, 16, 17, 18, 19] (.done)) (.run [15] (.both (.run [3, 16, 17, 18, 19] (.done)) (.run [16, 3, 17, 18, 19] (.done)))))) (.run [15] (.both (.run [3, 13, 16, 17, 18, 19] (.done)) (.run [13] (.both (.run [3, 16, 17, 18, 19] (.done)) (.run [16, 3, 17, 18, 19] (.done))))))))) ?_;simp only [drs])|refine nc ?_);simp (maxSteps := 1000000) [hF, eH, hnr2, htl, h0])
         all_goals (repeat' refine And.intro ?_ ?_)
         all_goals (refine (eown_ok false h.rooms[t].queue hq8).go [] (by simp (maxSteps := 1000000) [hF, hnr2, htl, hm0, hp, hm, c1, c2, hs3]) ?_;rintro av X κ ⟨rfl, rfl, rfl⟩;simp (maxSteps := 1000000) [hF, hnr2, htl, hm0, hp, hm, c1, c2, hs3])
         all_goals (repeat' refine And.intro ?_ ?_)
         all_goals (repeat first|refine n1 ?_|(refine rg 28 [3] [8, 9] [] ?_;simp (maxSteps := 1000000) [hF, hnr2, htl, hm0, hp, hm, c1, c2, hs3]))
         all_goals (refine VS.widen [(0, [.d])] (by simp [covers, mpre]) ?_)
         all_goals ((try refine nr ?_);(repeat first|refine nb_ ?_|refine nl_ ?_);refine endK.o [8, 9] [0] [(0, [.d])] ?_;simp [hF, retK, covers, mpre, eH, hc, hPh])
         all_goals exact ⟨_, rfl⟩
    ·have hc : sendE h w t k = (h, 0, sendingE h w t k) := by simp [sendE, hr, hr2, ht, hz]
     repeat first|refine n1 ?_|((first|refine rg 4 [0, 2, 3, 10] [0, 2, 3, 10, 39] [] ?_|refine rg 5 [10] [8, 9] [] ?_|refine nc ?_);simp (maxSteps := 1000000) [hF, hz])
     refine VS.widen [(0, [.d])] (by simp [covers, mpre]) ?_
     (try refine nr ?_);(repeat first|refine nb_ ?_|refine nl_ ?_);refine endK.o [8, 9] [0] [(0, [.d])] ?_;simp [hF, retK, covers, mpre, eH, hc]
     exact ⟨_, rfl⟩
def H1 : Hs := ⟨[⟨[], false⟩, ⟨[], false⟩], [⟨0, false, 7, [], false⟩]⟩
def H2 : Hs := ⟨[⟨[], false⟩, ⟨[], false⟩], [⟨0, false, 7, [], false⟩, ⟨0, true, 0, [0], false⟩]⟩
def H3 : Hs := ⟨[⟨[], false⟩, ⟨[1], false⟩], [⟨1, false, 7, [], false⟩, ⟨1, true, 0, [0], false⟩]⟩
theorem s1 : leafOf (newH 2) 0 7 = (H1, 0, 0) := by kernel_rfl
theorem s2 : listOf H1 0 [0] = (H2, 1, 0) := by kernel_rfl
theorem s3 : moveOf H2 0 1 1 = (H3, 0) := by kernel_rfl
theorem s4 : getOf H3 0 1 0 = (0, 3) := by kernel_rfl
theorem s5 : getOf H3 1 1 0 = (0, 0) := by kernel_rfl
theorem H2_OK : Hok H2 := by
 refine ⟨by simp [H2], by simp [H2], by simp [H2], by simp [H2, ItemsOk], by simp [H2], by simp [H2], by simp [H2], ?_⟩
 simp [H2]
theorem sane_ok : Meets Try.prog 12 [] .nil fun av X κ => av = avBool true ∧ X = [] ∧ κ = [] := by
 refine fb Try.func12 Try.ntmps12 [.tmp 0] fun w0 I0 F0 hF => ?_
 repeat first|refine n1 ?_|refine n2 ?_|refine n3 ?_|refine n4 ?_|refine n5 ?_|refine n6 ?_|refine n7 ?_|refine n8 ?_|refine n9 ?_|refine n0 ?_|refine ⟨⟨by omega, by omega⟩, ?_⟩|((first|refine rg 0 [] [] [] ?_|refine rg 1 [] [1, 2] [] ?_|refine rg 2 [1, 2] [1, 21] [(2, 18)] ?_|refine rg 3 [] [0] [] ?_|refine rg 4 [1] [1, 3, 4] [] ?_|refine rg 5 [1, 3, 4] [1, 3, 4, 5, 6] [] ?_|refine rg 6 [1, 3, 4, 5, 6] [1, 3, 4, 5, 6, 7] [] ?_|refine rg 7 [1, 3, 4, 5, 6, 7] [1, 3, 4, 5, 6, 7, 9] [] ?_|refine rg 8 [1, 3, 4, 5, 6, 7, 9] [3, 4, 6, 7, 9, 10, 11] [] ?_|refine rg 9 [3, 4, 6, 7, 9, 10, 11] [0] [(2, 51), (6, 55), (10, 59), (14, 63), (19, 68)] ?_|refine nc ?_);simp (maxSteps := 1000000) [hF])
 refine (new_ok 2 (by omega) (by omega)).go [] (by simp (maxSteps := 1000000) [hF]) ?_;rintro av X κ ⟨rfl, rfl, rfl⟩;simp (maxSteps := 1000000) [hF]
 repeat first|refine n1 ?_|refine n2 ?_|refine n3 ?_|refine n4 ?_|refine n5 ?_|refine n6 ?_|refine n7 ?_|refine n8 ?_|refine n9 ?_|refine n0 ?_|refine ⟨⟨by omega, by omega⟩, ?_⟩|((first|refine rg 0 [] [] [] ?_|refine rg 1 [] [1, 2] [] ?_|refine rg 2 [1, 2] [1, 21] [(2, 18)] ?_|refine rg 3 [] [0] [] ?_|refine rg 4 [1] [1, 3, 4] [] ?_|refine rg 5 [1, 3, 4] [1, 3, 4, 5, 6] [] ?_|refine rg 6 [1, 3, 4, 5, 6] [1, 3, 4, 5, 6, 7] [] ?_|refine rg 7 [1, 3, 4, 5, 6, 7] [1, 3, 4, 5, 6, 7, 9] [] ?_|refine rg 8 [1, 3, 4, 5, 6, 7, 9] [3, 4, 6, 7, 9, 10, 11] [] ?_|refine rg 9 [3, 4, 6, 7, 9, 10, 11] [0] [(2, 51), (6, 55), (10, 59), (14, 63), (19, 68)] ?_|refine nc ?_);simp (maxSteps := 1000000) [hF])
 refine (leaf_ok (newH 2) (by simp [newH]) 0 7).go [(0, [])] (by simp (maxSteps := 1000000) [hF, s1, dH]) ?_;rintro av X κ ⟨rfl, rfl, rfl⟩;simp (maxSteps := 1000000) [hF, s1, dH]
 repeat first|refine n1 ?_|refine n2 ?_|refine n3 ?_|refine n4 ?_|refine n5 ?_|refine n6 ?_|refine n7 ?_|refine n8 ?_|refine n9 ?_|refine n0 ?_|refine ⟨⟨by omega, by omega⟩, ?_⟩|((first|refine rg 0 [] [] [] ?_|refine rg 1 [] [1, 2] [] ?_|refine rg 2 [1, 2] [1, 21] [(2, 18)] ?_|refine rg 3 [] [0] [] ?_|refine rg 4 [1] [1, 3, 4] [] ?_|refine rg 5 [1, 3, 4] [1, 3, 4, 5, 6] [] ?_|refine rg 6 [1, 3, 4, 5, 6] [1, 3, 4, 5, 6, 7] [] ?_|refine rg 7 [1, 3, 4, 5, 6, 7] [1, 3, 4, 5, 6, 7, 9] [] ?_|refine rg 8 [1, 3, 4, 5, 6, 7, 9] [3, 4, 6, 7, 9, 10, 11] [] ?_|refine rg 9 [3, 4, 6, 7, 9, 10, 11] [0] [(2, 51), (6, 55), (10, 59), (14, 63), (19, 68)] ?_|refine nc ?_);simp (maxSteps := 1000000) [hF])
 refine (list_r H1 (by simp [H1]) 0 [0] [] true (by simp)).go [(1, []), (0, [])] (by simp (maxSteps := 1000000) [hF, s2, dInts, sq, dInt, dH]) ?_;rintro av X κ ⟨rfl, rfl, rfl⟩;simp (maxSteps := 1000000) [hF, s2, dInts, sq, dInt, dH]
 repeat first|refine n1 ?_|refine n2 ?_|refine n3 ?_|refine n4 ?_|refine n5 ?_|refine n6 ?_|refine n7 ?_|refine n8 ?_|refine n9 ?_|refine n0 ?_|refine ⟨⟨by omega, by omega⟩, ?_⟩|((first|refine rg 0 [] [] [] ?_|refine rg 1 [] [1, 2] [] ?_|refine rg 2 [1, 2] [1, 21] [(2, 18)] ?_|refine rg 3 [] [0] [] ?_|refine rg 4 [1] [1, 3, 4] [] ?_|refine rg 5 [1, 3, 4] [1, 3, 4, 5, 6] [] ?_|refine rg 6 [1, 3, 4, 5, 6] [1, 3, 4, 5, 6, 7] [] ?_|refine rg 7 [1, 3, 4, 5, 6, 7] [1, 3, 4, 5, 6, 7, 9] [] ?_|refine rg 8 [1, 3, 4, 5, 6, 7, 9] [3, 4, 6, 7, 9, 10, 11] [] ?_|refine rg 9 [3, 4, 6, 7, 9, 10, 11] [0] [(2, 51), (6, 55), (10, 59), (14, 63), (19, 68)] ?_|refine nc ?_);simp (maxSteps := 1000000) [hF])
 refine (move_ok H2 H2_OK 0 1 1).go [(0, [])] (by simp (maxSteps := 1000000) [hF, s3, dH]) ?_;rintro av X κ ⟨rfl, rfl, rfl⟩;simp (maxSteps := 1000000) [hF, s3, dH]
 repeat first|refine n1 ?_|refine n2 ?_|refine n3 ?_|refine n4 ?_|refine n5 ?_|refine n6 ?_|refine n7 ?_|refine n8 ?_|refine n9 ?_|refine n0 ?_|refine ⟨⟨by omega, by omega⟩, ?_⟩|((first|refine rg 0 [] [] [] ?_|refine rg 1 [] [1, 2] [] ?_|refine rg 2 [1, 2] [1, 21] [(2, 18)] ?_|refine rg 3 [] [0] [] ?_|refine rg 4 [1] [1, 3, 4] [] ?_|refine rg 5 [1, 3, 4] [1, 3, 4, 5, 6] [] ?_|refine rg 6 [1, 3, 4, 5, 6] [1, 3, 4, 5, 6, 7] [] ?_|refine rg 7 [1, 3, 4, 5, 6, 7] [1, 3, 4, 5, 6, 7, 9] [] ?_|refine rg 8 [1, 3, 4, 5, 6, 7, 9] [3, 4, 6, 7, 9, 10, 11] [] ?_|refine rg 9 [3, 4, 6, 7, 9, 10, 11] [0] [(2, 51), (6, 55), (10, 59), (14, 63), (19, 68)] ?_|refine nc ?_);simp (maxSteps := 1000000) [hF])
 refine (get_c H3 0 1 0).go [(0, [])] (by simp (maxSteps := 1000000) [hF, s4, dH]) ?_;rintro av X κ ⟨rfl, rfl, rfl⟩;simp (maxSteps := 1000000) [hF, s4, dH]
 repeat first|refine n1 ?_|refine n2 ?_|refine n3 ?_|refine n4 ?_|refine n5 ?_|refine n6 ?_|refine n7 ?_|refine n8 ?_|refine n9 ?_|refine n0 ?_|refine ⟨⟨by omega, by omega⟩, ?_⟩|((first|refine rg 0 [] [] [] ?_|refine rg 1 [] [1, 2] [] ?_|refine rg 2 [1, 2] [1, 21] [(2, 18)] ?_|refine rg 3 [] [0] [] ?_|refine rg 4 [1] [1, 3, 4] [] ?_|refine rg 5 [1, 3, 4] [1, 3, 4, 5, 6] [] ?_|refine rg 6 [1, 3, 4, 5, 6] [1, 3, 4, 5, 6, 7] [] ?_|refine rg 7 [1, 3, 4, 5, 6, 7] [1, 3, 4, 5, 6, 7, 9] [] ?_|refine rg 8 [1, 3, 4, 5, 6, 7, 9] [3, 4, 6, 7, 9, 10, 11] [] ?_|refine rg 9 [3, 4, 6, 7, 9, 10, 11] [0] [(2, 51), (6, 55), (10, 59), (14, 63), (19, 68)] ?_|refine nc ?_);simp (maxSteps := 1000000) [hF])
 refine (get_c H3 1 1 0).go [(0, [])] (by simp (maxSteps := 1000000) [hF, s5, dH]) ?_;rintro av X κ ⟨rfl, rfl, rfl⟩;simp (maxSteps := 1000000) [hF, s5, dH]
 repeat first|refine n1 ?_|refine n2 ?_|refine n3 ?_|refine n4 ?_|refine n5 ?_|refine n6 ?_|refine n7 ?_|refine n8 ?_|refine n9 ?_|refine n0 ?_|refine ⟨⟨by omega, by omega⟩, ?_⟩|((first|refine rg 0 [] [] [] ?_|refine rg 1 [] [1, 2] [] ?_|refine rg 2 [1, 2] [1, 21] [(2, 18)] ?_|refine rg 3 [] [0] [] ?_|refine rg 4 [1] [1, 3, 4] [] ?_|refine rg 5 [1, 3, 4] [1, 3, 4, 5, 6] [] ?_|refine rg 6 [1, 3, 4, 5, 6] [1, 3, 4, 5, 6, 7] [] ?_|refine rg 7 [1, 3, 4, 5, 6, 7] [1, 3, 4, 5, 6, 7, 9] [] ?_|refine rg 8 [1, 3, 4, 5, 6, 7, 9] [3, 4, 6, 7, 9, 10, 11] [] ?_|refine rg 9 [3, 4, 6, 7, 9, 10, 11] [0] [(2, 51), (6, 55), (10, 59), (14, 63), (19, 68)] ?_|refine nc ?_);simp (maxSteps := 1000000) [hF])
 (try refine nr ?_);(repeat first|refine nb_ ?_|refine nl_ ?_);refine endK.o [0] [] [] ?_;simp [hF, retK, covers, mpre]
theorem u64_nonneg (x : Int) : 0 ≤ IntKind.u64.wrap x := by simp only [IntKind.wrap, IntKind.bits, IntKind.signed]; simp; omega
def fitN (x : Int) (n : Nat) : Nat := if n = 0 then 0 else ((IntKind.u64.wrap x).tmod n).toNat
theorem fitN_eq (x : Int) {n : Nat} (h : 0 < n) : (IntKind.u64.wrap x).tmod n = (fitN x n : Int) ∧ fitN x n < n := by
 have h1 : 0 ≤ (IntKind.u64.wrap x).tmod n := Int.tmod_nonneg _ (u64_nonneg x)
 have h2 : (IntKind.u64.wrap x).tmod n < n := Int.tmod_lt_of_pos _ (by omega)
 rw [fitN, if_neg (by omega)]
 omega
theorem fitN_lt (x : Int) {n : Nat} (h : 0 < n) : fitN x n < n := (fitN_eq x h).2
theorem fit_ok (x : Int) (n : Nat) (hn : n ≤ 1000) : Meets Try.prog 13 [] (.cons (avInt x) (.cons (avInt n) .nil)) fun av X κ => av = avInt (fitN x n) ∧ X = [] ∧ κ = [] := by
 by_cases h0 : n = 0
 ·subst h0
  refine fb Try.func13 Try.ntmps13 [.tmp 4] fun w0 I0 F0 hF => ?_
  repeat first|refine n1 ?_|refine n2 ?_|refine n3 ?_|refine n4 ?_|refine n5 ?_|refine n6 ?_|refine n7 ?_|refine n8 ?_|refine n9 ?_|refine n0 ?_|refine ⟨⟨by omega, by omega⟩, ?_⟩|((first|refine rg 0 [0, 1] [0, 1] [] ?_|refine rg 1 [0, 1] [0, 1, 6] [] ?_|refine rg 2 [] [4] [] ?_|refine rg 3 [0, 1] [4] [] ?_|refine nc ?_);simp (maxSteps := 1000000) [hF])
  (try refine nr ?_);(repeat first|refine nb_ ?_|refine nl_ ?_);refine endK.o [4] [] [] ?_;simp [hF, retK, covers, mpre, fitN]
 ·obtain ⟨h1, h2⟩ := fitN_eq x (n := n) (by omega)
  have hi : ¬ (n : Int) = 0 := by omega
  have w1 : IntKind.u64.wrap (n : Int) = n := by simp only [IntKind.wrap, IntKind.bits, IntKind.signed]; simp; omega
  have w2 : IntKind.i64.wrap (fitN x n : Int) = fitN x n := IntWalk.i64_in _ (by omega)
  refine fb Try.func13 Try.ntmps13 [.tmp 4] fun w0 I0 F0 hF => ?_
  repeat first|refine n1 ?_|refine n2 ?_|refine n3 ?_|refine n4 ?_|refine n5 ?_|refine n6 ?_|refine n7 ?_|refine n8 ?_|refine n9 ?_|refine n0 ?_|refine ⟨⟨by omega, by omega⟩, ?_⟩|((first|refine rg 0 [0, 1] [0, 1] [] ?_|refine rg 1 [0, 1] [0, 1, 6] [] ?_|refine rg 2 [] [4] [] ?_|refine rg 3 [0, 1] [4] [] ?_|refine nc ?_);simp (maxSteps := 1000000) [hF, hi, h0, w1, h1, w2])
  (try refine nr ?_);(repeat first|refine nb_ ?_|refine nl_ ?_);refine endK.o [4] [] [] ?_;simp [hF, retK, covers, mpre]
def dLd (d : Ld) : D := .agg (.cons (.val (.int .i64 d.d)) (.cons (.val (.int .i64 d.who)) (.cons (.val (.int .i64 d.a)) (.cons (.val (.int .i64 d.b)) (.cons (.val (.int .i64 d.c)) (.cons (.sl false () 1 (dInts d.l)) .nil))))))
def dLds (l : List Ld) : D := sq (l.map dLd)
def avLd (d : Ld) : AV := .agg (.cons (avInt d.d) (.cons (avInt d.who) (.cons (avInt d.a) (.cons (avInt d.b) (.cons (avInt d.c) (.cons (.imm 1 (dInts d.l) false) .nil))))))
@[simp] theorem dLds_len (l : List Ld) : (dLds l).len = l.length := by simp [dLds]
@[simp] theorem dLds_free (l : List Ld) : (dLds l).free = true := sq_free fun x hx => by obtain ⟨n, _, rfl⟩ := List.mem_map.1 hx; simp [dLd]
theorem dLds_nth {l : List Ld} {i : Nat} (h : i < l.length) : (dLds l).nth i = .agg (.cons (.val (.int .i64 l[i].d)) (.cons (.val (.int .i64 l[i].who)) (.cons (.val (.int .i64 l[i].a)) (.cons (.val (.int .i64 l[i].b)) (.cons (.val (.int .i64 l[i].c)) (.cons (.sl false () 1 (dInts l[i].l)) .nil)))))) := by
 rw [dLds, sq_nth_lt (by simpa using h)]; simp; rfl
def dClI (c : Cl) : D := .agg (.cons (.val (.int .i64 (if c.list = true then 6 else 3))) (.cons (.val (.int .i64 c.word)) (.cons (.val (.string ⟨#[]⟩)) (.cons (.sl false () 1 .nil) (.cons (.sl false () 1 (dInts c.items)) .nil)))))
def dClsI (l : List Cl) : D := sq (l.map dClI)
def eClI (c : Cl) : D := .agg (.cons (.val (.bool c.list)) (.cons (.val (.int .i64 c.word)) (.cons (.sl false () 1 (dInts c.items)) .nil)))
def eClsI (l : List Cl) : D := sq (l.map eClI)
@[simp] theorem dClsI_len (l : List Cl) : (dClsI l).len = l.length := by simp [dClsI]
@[simp] theorem eClsI_len (l : List Cl) : (eClsI l).len = l.length := by simp [eClsI]
@[simp] theorem dClsI_free (l : List Cl) : (dClsI l).free = true := sq_free fun x hx => by obtain ⟨n, _, rfl⟩ := List.mem_map.1 hx; simp [dClI]
@[simp] theorem eClsI_free (l : List Cl) : (eClsI l).free = true := sq_free fun x hx => by obtain ⟨n, _, rfl⟩ := List.mem_map.1 hx; simp [eClI]
theorem freeze_dCls (l : List Cl) : (dCls l).freeze = dClsI l := by
 rw [dCls, freeze_sq, dClsI, List.map_map]; congr 1
 exact List.map_congr_left fun r _ => by simp [dCl, dClI, T.freeze]
theorem freeze_eCls (l : List Cl) : (eCls l).freeze = eClsI l := by
 rw [eCls, freeze_sq, eClsI, List.map_map]; congr 1
 exact List.map_congr_left fun r _ => by simp [eCl, eClI, T.freeze]
theorem dClsI_nth {l : List Cl} {i : Nat} (h : i < l.length) : (dClsI l).nth i = .agg (.cons (.val (.int .i64 (if l[i].list = true then 6 else 3))) (.cons (.val (.int .i64 l[i].word)) (.cons (.val (.string ⟨#[]⟩)) (.cons (.sl false () 1 .nil) (.cons (.sl false () 1 (dInts l[i].items)) .nil))))) := by
 rw [dClsI, sq_nth_lt (by simpa using h)]; simp; rfl
theorem eClsI_nth {l : List Cl} {i : Nat} (h : i < l.length) : (eClsI l).nth i = .agg (.cons (.val (.bool l[i].list)) (.cons (.val (.int .i64 l[i].word)) (.cons (.sl false () 1 (dInts l[i].items)) .nil))) := by
 rw [eClsI, sq_nth_lt (by simpa using h)]; simp; rfl
structure Rel (G G' : List Cl) : Prop where
 len : G'.length = G.length
 cell : ∀ i, (h : i < G.length) → (G'[i]'(by omega)).list = G[i].list ∧ (G'[i]'(by omega)).items = G[i].items ∧ (G[i].list = true → G[i].word = 0) ∧ (G[i].list = false → (G'[i]'(by omega)).word = G[i].word)
theorem graph_i (G G' : List Cl) (r : Rel G G') (hG : G.length ≤ 100000) (hI : ∀ c ∈ G, c.items.length ≤ 100000) (ex ex2 : Bool) : Meets Try.prog 70 [] (.cons (.imm 5 (dClsI G) ex) (.cons (.imm 3 (eClsI G') ex2) .nil)) fun av X κ => av = avBool true ∧ X = [] ∧ κ = [] := by
 have hl := r.len
 have hli : (G'.length : Int) = G.length := by omega
 refine fb Try.func70 Try.ntmps70 [.tmp 4] fun w0 I0 F0 hF => ?_
 repeat first|refine n1 ?_|refine n2 ?_|refine n3 ?_|((first|refine rg 0 [0, 1] [0, 1] [] ?_|refine rg 1 [0, 1] [0, 1, 11] [] ?_|refine rg 3 [0, 1] [0, 1, 5] [] ?_|refine nc ?_);simp (maxSteps := 1000000) [hF, hl])
 refine VS.rounds (fun m st => ∃ i : Nat, i + m = G.length ∧ st = ⟨[(0, .imm 5 (dClsI G) ex), (1, .imm 3 (eClsI G') ex2), (5, avInt i)], [], [], []⟩) ⟨G.length, 0, by omega, by simp⟩ ?_
 rintro m st ⟨i, hi, rfl⟩
 repeat first|refine n1 ?_|((first|refine rg 4 [0, 1, 5] [0, 1, 5, 15] [] ?_|refine nc ?_);simp (maxSteps := 1000000) [hF])
 refine ⟨fun hlt => ?_, fun hge => ?_⟩
 ·have hlt2 : i < G'.length := by omega
  obtain ⟨h1, h2, h3, h4⟩ := r.cell i hlt
  have hil := hI _ (List.getElem_mem hlt)
  have hn1 := dClsI_nth hlt
  have hn2 := eClsI_nth hlt2
  rw [h1, h2] at hn2
  have hw : IntKind.i64.wrap ((i : Int) + 1) = (i + 1 : Nat) := by rw [IntWalk.i64_in _ (by omega)]; rfl
  obtain ⟨IS, hIS⟩ : ∃ IS, IS = G[i].items := ⟨_, rfl⟩
  rw [← hIS] at hn1 hn2 hil
  cases hb : G[i].list with
  | true =>
   have hw0 := h3 hb
   rw [hb, hw0, if_pos rfl] at hn1
   rw [hb] at hn2
   repeat first|refine n1 ?_|refine n2 ?_|refine n3 ?_|((first|(refine dr 6 0 [0, 1, 5] [0, 1, 5, 47] [(6, 24), (15, 33)] [⟨0, 1, 262144, 5⟩, ⟨0, 32, 524288, 5⟩, ⟨3, 786432, 1048576, 5⟩, ⟨4, 1048576, 2097152, 5⟩, ⟨8, 2097152, 4194304, 6⟩, ⟨16, 4194304, 8388608, 5⟩, ⟨32, 8388608, 16777216, 5⟩, ⟨64, 16777217, 33554432, 5⟩, ⟨64, 16777248, 67108864, 5⟩, ⟨448, 117440512, 134217728, 5⟩, ⟨576, 150994944, 268435456, 5⟩, ⟨1088, 285212672, 536870912, 6⟩, ⟨2112, 553648128, 1073741824, 5⟩, ⟨4160, 1090519040, 2147483648, 5⟩, ⟨8256, 2164260864, 4294967296, 5⟩, ⟨16448, 4294967296, 8589934592, 5⟩, ⟨32768, 8589934593, 17179869184, 5⟩, ⟨32768, 8589934624, 34359738368, 5⟩, ⟨229376, 60129542144, 68719476736, 5⟩, ⟨294912, 77309411328, 137438953472, 5⟩, ⟨557056, 146028888064, 274877906944, 6⟩, ⟨1081344, 283467841536, 549755813888, 5⟩, ⟨32768, 8589934594, 1099511627776, 5⟩, ⟨32768, 8589934624, 2199023255552, 5⟩, ⟨12615680, 3307124817920, 4398046511104, 5⟩, ⟨16809984, 4406636445696, 8796093022208, 5⟩, ⟨33587200, 8804682956800, 17592186044416, 6⟩, ⟨67141632, 17600775979008, 35184372088832, 5⟩, ⟨136347648, 35742717837312, 70368744177664, 5⟩, ⟨268468224, 70377334112256, 140737488355328, 5⟩] (.take 0 (.take 1 (.take 2 (.take 3 (.take 4 (.take 5 (.take 6 (.take 7 (.take 8 (.take 9 (.take 10 (.take 11 (.take 12 (.take 13 (.take 14 (.take 15 (.take 16 (.take 17 (.take 18 (.take 19 (.take 20 (.take 21 (.take 22 (.take 23 (.take 24 (.take 25 (.take 26 (.take 27 (.take 28 (.take 29 (.done))))))))))))))))))))))))))))))) (.run [0, 1, 2, 3, 4, 5, 6, 7, 8, 9, 10, 11, 12, 13, 14, 15, 16, 17, 18, 19, 20, 21, 22, 23, 24, 25, 26, 27, 28, 29] (.done)) ?_;simp only [drs])|(refine dr 8 0 [0, 1, 5] [0, 1, 5, 97] [(5, 53), (12, 60), (21, 69), (28, 76), (35, 83)] [⟨0, 2, 281474976710656, 5⟩, ⟨0, 32, 562949953421312, 5⟩, ⟨3, 844424930131968, 1125899906842624, 5⟩, ⟨4, 1125899906842624, 2251799813685248, 5⟩, ⟨8, 2251799813685248, 4503599627370496, 6⟩, ⟨16, 4503599627370496, 9007199254740992, 5⟩, ⟨32, 9007199254740993, 18014398509481984, 5⟩, ⟨32, 9007199254741024, 36028797018963968, 5⟩, ⟨224, 63050394783186944, 72057594037927936, 5⟩, ⟨288, 81064793292668928, 144115188075855872, 5⟩, ⟨544, 153122387330596864, 288230376151711744, 6⟩, ⟨1056, 297237575406452736, 576460752303423488, 5⟩, ⟨2080, 585467951558164480, 1152921504606846976, 5⟩, ⟨4096, 1152921504606846977, 2305843009213693952, 5⟩, ⟨4096, 1152921504606847008, 4611686018427387904, 5⟩, ⟨28672, 8070450532247928832, 9223372036854775808, 5⟩, ⟨36864, 10376293541461622784, 18446744073709551616, 5⟩, ⟨69632, 19599665578316398592, 36893488147419103232, 6⟩, ⟨135168, 38046409652025950208, 73786976294838206464, 5⟩, ⟨266272, 74948904998699794432, 147573952589676412928, 5⟩, ⟨524320, 147582959788931153920, 295147905179352825856, 5⟩, ⟨1052672, 295147905179352825856, 590295810358705651712, 5⟩, ⟨2097152, 590295810358705651714, 1180591620717411303424, 5⟩, ⟨2097152, 590295810358705651744, 2361183241434822606848, 5⟩, ⟨14680064, 4132070672510939561984, 4722366482869645213696, 5⟩, ⟨18874368, 5312662293228350865408, 9444732965739290427392, 5⟩, ⟨35651584, 10035028776097996079104, 18889465931478580854784, 6⟩, ⟨69206016, 19479761741837286506496, 37778931862957161709568, 5⟩, ⟨136314880, 38369227673315867361280, 75557863725914323419136, 5⟩, ⟨268435456, 75557863725914323419137, 151115727451828646838272, 5⟩, ⟨268435456, 75557863725914323419168, 302231454903657293676544, 5⟩, ⟨1879048192, 528905046081400263933952, 604462909807314587353088, 5⟩, ⟨2415919104, 680020773533228910772224, 1208925819614629174706176, 5⟩, ⟨4563402752, 1284483683340543498125312, 2417851639229258349412352, 6⟩, ⟨8858370048, 2493409502955172672831488, 4835703278458516698824704, 5⟩, ⟨17448304640, 4911261142184431022243840, 9671406556917033397649408, 5⟩, ⟨34359738368, 9671406556917033397649409, 19342813113834066795298816, 5⟩, ⟨34359738368, 9671406556917033397649440, 38685626227668133590597632, 5⟩, ⟨240518168576, 67699845898419233783545856, 77371252455336267181195264, 5⟩, ⟨309237645312, 87042659012253300578844672, 154742504910672534362390528, 5⟩, ⟨584115552256, 164413911467589567760039936, 309485009821345068724781056, 6⟩, ⟨34359738368, 9671406556917033397649410, 618970019642690137449562112, 5⟩, ⟨34359738368, 9671406556917033397649440, 1237940039285380274899124224, 5⟩, ⟨6631429505024, 1866581465484987445746335744, 2475880078570760549798248448, 5⟩, ⟨8830452760576, 2485551485127677583195897856, 4951760157141521099596496896, 5⟩, ⟨17626545782784, 4961431563698438132994146304, 9903520314283042199192993792, 6⟩, ⟨36318243454976, 10222676730661304301315424256, 19807040628566084398385987584, 5⟩, ⟨70403372351488, 19816787592986727346107056128, 39614081257132168796771975168, 5⟩, ⟨140737758887936, 39614157405291705069801046016, 79228162514264337593543950336, 5⟩, ⟨281474978807808, 79228163104560147952249602048, 158456325028528675187087900672, 5⟩] (.take 0 (.take 1 (.take 2 (.take 3 (.take 4 (.take 5 (.take 6 (.take 7 (.take 8 (.take 9 (.take 10 (.take 11 (.take 12 (.take 13 (.take 14 (.take 15 (.take 16 (.take 17 (.take 18 (.take 19 (.take 20 (.take 21 (.take 22 (.take 23 (.take 24 (.take 25 (.take 26 (.take 27 (.take 28 (.take 29 (.take 30 (.take 31 (.take 32 (.take 33 (.take 34 (.take 35 (.take 36 (.take 37 (.take 38 (.take 39 (.take 40 (.take 41 (.take 42 (.take 43 (.take 44 (.take 45 (.take 46 (.take 47 (.take 48 (.take 49 (.done))))))))))))))))))))))))))))))))))))))))))))))))))) (.run [0, 1, 2, 3, 4, 5, 6, 7, 8, 9, 10, 11, 12, 13, 14, 15, 16, 17, 18, 19, 20, 21, 22, 23, 24, 25, 26, 27, 28, 29, 30, 31, 32, 33, 34, 35, 36, 37, 38, 39, 40, 41, 42, 43, 44, 45, 46, 47, 48, 49] (.done)) ?_;simp only [drs])|refine rg 10 [0, 1, 5] [0, 1, 5, 6] [] ?_|refine nc ?_);simp (maxSteps := 1000000) [hF, hn1, hn2, hlt, hlt2])
   refine VS.pick [0, 1, 5, 6] [] (by simp [hF]) ?_;simp [hF]
   refine VS.rounds (fun m st => ∃ k : Nat, k + m = IS.length ∧ st = ⟨[(0, .imm 5 (dClsI G) ex), (1, .imm 3 (eClsI G') ex2), (5, avInt i), (6, avInt k)], [], [], []⟩) ⟨IS.length, 0, by omega, by simp⟩ ?_
   rintro m2 st ⟨k, hk, rfl⟩
   repeat first|refine n1 ?_|((first|refine rg 11 [0, 1, 5, 6] [0, 1, 5, 6, 105] [] ?_|refine nc ?_);simp (maxSteps := 1000000) [hF, hn1, hn2, hlt, hlt2])
   refine ⟨fun hltk => ?_, fun hgek => ?_⟩
   ·have hkl : k < IS.length := by omega
    have hnk := dInts_nth hkl
    have hwk : IntKind.i64.wrap ((k : Int) + 1) = (k + 1 : Nat) := by rw [IntWalk.i64_in _ (by omega)]; rfl
    repeat first|refine n1 ?_|refine n2 ?_|refine n3 ?_|refine n4 ?_|refine n5 ?_|refine n6 ?_|((first|refine rg 12 [0, 1, 5, 6] [0, 1, 5, 6] [] ?_|(refine dr 13 0 [0, 1, 5, 6] [0, 1, 5, 6, 124] [] [⟨0, 1, 324518553658426726783156020576256, 5⟩, ⟨0, 32, 649037107316853453566312041152512, 5⟩, ⟨3, 973555660975280180349468061728768, 1298074214633706907132624082305024, 5⟩, ⟨4, 1298074214633706907132624082305024, 2596148429267413814265248164610048, 5⟩, ⟨8, 2596148429267413814265248164610048, 5192296858534827628530496329220096, 6⟩, ⟨0, 64, 10384593717069655257060992658440192, 5⟩, ⟨48, 15576890575604482885591488987660288, 20769187434139310514121985316880384, 5⟩, ⟨64, 20769187434139310514121985316880384, 41538374868278621028243970633760768, 6⟩, ⟨0, 2, 83076749736557242056487941267521536, 5⟩, ⟨0, 32, 166153499473114484112975882535043072, 5⟩, ⟨768, 249230249209671726169463823802564608, 332306998946228968225951765070086144, 5⟩, ⟨1024, 332306998946228968225951765070086144, 664613997892457936451903530140172288, 5⟩, ⟨2048, 664613997892457936451903530140172288, 1329227995784915872903807060280344576, 6⟩, ⟨0, 64, 2658455991569831745807614120560689152, 5⟩, ⟨12288, 3987683987354747618711421180841033728, 5316911983139663491615228241121378304, 5⟩, ⟨16384, 5316911983139663491615228241121378304, 10633823966279326983230456482242756608, 6⟩, ⟨32896, 10675362341147605604258700452876517376, 21267647932558653966460912964485513216, 5⟩] (.take 0 (.take 1 (.take 2 (.take 3 (.take 4 (.take 5 (.take 6 (.take 7 (.take 8 (.take 9 (.take 10 (.take 11 (.take 12 (.take 13 (.take 14 (.take 15 (.take 16 (.done)))))))))))))))))) (.run [0, 1, 2, 3, 4, 5, 6, 7, 8, 9, 10, 11, 12, 13, 14, 15, 16] (.done)) ?_;simp only [drs])|refine nc ?_);simp (maxSteps := 1000000) [hF, hn1, hn2, hlt, hlt2, hnk, hkl, hwk])
    refine nextK.of [0, 1, 5, 6] [] (m2 - 1) (by omega) (by simp [hF]) ?_
    exact ⟨k + 1, by omega, by simp⟩
   ·repeat first|refine n4 ?_|refine n5 ?_|refine n6 ?_|refine n7 ?_|(refine rg 5 [0, 1, 5] [0, 1, 5] [] ?_;simp (maxSteps := 1000000) [hF, hw])
    refine nextK.of [0, 1, 5] [] (m - 1) (by omega) (by simp [hF]) ?_
    exact ⟨i + 1, by omega, by simp⟩
  | false =>
   have hw0 := h4 hb
   rw [hb, if_neg (by decide)] at hn1
   rw [hb, hw0] at hn2
   repeat first|refine n1 ?_|refine n2 ?_|refine n3 ?_|((first|(refine dr 6 0 [0, 1, 5] [0, 1, 5, 47] [(6, 24), (15, 33)] [⟨0, 1, 262144, 5⟩, ⟨0, 32, 524288, 5⟩, ⟨3, 786432, 1048576, 5⟩, ⟨4, 1048576, 2097152, 5⟩, ⟨8, 2097152, 4194304, 6⟩, ⟨16, 4194304, 8388608, 5⟩, ⟨32, 8388608, 16777216, 5⟩, ⟨64, 16777217, 33554432, 5⟩, ⟨64, 16777248, 67108864, 5⟩, ⟨448, 117440512, 134217728, 5⟩, ⟨576, 150994944, 268435456, 5⟩, ⟨1088, 285212672, 536870912, 6⟩, ⟨2112, 553648128, 1073741824, 5⟩, ⟨4160, 1090519040, 2147483648, 5⟩, ⟨8256, 2164260864, 4294967296, 5⟩, ⟨16448, 4294967296, 8589934592, 5⟩, ⟨32768, 8589934593, 17179869184, 5⟩, ⟨32768, 8589934624, 34359738368, 5⟩, ⟨229376, 60129542144, 68719476736, 5⟩, ⟨294912, 77309411328, 137438953472, 5⟩, ⟨557056, 146028888064, 274877906944, 6⟩, ⟨1081344, 283467841536, 549755813888, 5⟩, ⟨32768, 8589934594, 1099511627776, 5⟩, ⟨32768, 8589934624, 2199023255552, 5⟩, ⟨12615680, 3307124817920, 4398046511104, 5⟩, ⟨16809984, 4406636445696, 8796093022208, 5⟩, ⟨33587200, 8804682956800, 17592186044416, 6⟩, ⟨67141632, 17600775979008, 35184372088832, 5⟩, ⟨136347648, 35742717837312, 70368744177664, 5⟩, ⟨268468224, 70377334112256, 140737488355328, 5⟩] (.take 0 (.take 1 (.take 2 (.take 3 (.take 4 (.take 5 (.take 6 (.take 7 (.take 8 (.take 9 (.take 10 (.take 11 (.take 12 (.take 13 (.take 14 (.take 15 (.take 16 (.take 17 (.take 18 (.take 19 (.take 20 (.take 21 (.take 22 (.take 23 (.take 24 (.take 25 (.take 26 (.take 27 (.take 28 (.take 29 (.done))))))))))))))))))))))))))))))) (.run [0, 1, 2, 3, 4, 5, 6, 7, 8, 9, 10, 11, 12, 13, 14, 15, 16, 17, 18, 19, 20, 21, 22, 23, 24, 25, 26, 27, 28, 29] (.done)) ?_;simp only [drs])|(refine dr 8 0 [0, 1, 5] [0, 1, 5, 97] [(5, 53), (12, 60), (21, 69), (28, 76), (35, 83)] [⟨0, 2, 281474976710656, 5⟩, ⟨0, 32, 562949953421312, 5⟩, ⟨3, 844424930131968, 1125899906842624, 5⟩, ⟨4, 1125899906842624, 2251799813685248, 5⟩, ⟨8, 2251799813685248, 4503599627370496, 6⟩, ⟨16, 4503599627370496, 9007199254740992, 5⟩, ⟨32, 9007199254740993, 18014398509481984, 5⟩, ⟨32, 9007199254741024, 36028797018963968, 5⟩, ⟨224, 63050394783186944, 72057594037927936, 5⟩, ⟨288, 81064793292668928, 144115188075855872, 5⟩, ⟨544, 153122387330596864, 288230376151711744, 6⟩, ⟨1056, 297237575406452736, 576460752303423488, 5⟩, ⟨2080, 585467951558164480, 1152921504606846976, 5⟩, ⟨4096, 1152921504606846977, 2305843009213693952, 5⟩, ⟨4096, 1152921504606847008, 4611686018427387904, 5⟩, ⟨28672, 8070450532247928832, 9223372036854775808, 5⟩, ⟨36864, 10376293541461622784, 18446744073709551616, 5⟩, ⟨69632, 19599665578316398592, 36893488147419103232, 6⟩, ⟨135168, 38046409652025950208, 73786976294838206464, 5⟩, ⟨266272, 74948904998699794432, 147573952589676412928, 5⟩, ⟨524320, 147582959788931153920, 295147905179352825856, 5⟩, ⟨1052672, 295147905179352825856, 590295810358705651712, 5⟩, ⟨2097152, 590295810358705651714, 1180591620717411303424, 5⟩, ⟨2097152, 590295810358705651744, 2361183241434822606848, 5⟩, ⟨14680064, 4132070672510939561984, 4722366482869645213696, 5⟩, ⟨18874368, 5312662293228350865408, 9444732965739290427392, 5⟩, ⟨35651584, 10035028776097996079104, 18889465931478580854784, 6⟩, ⟨69206016, 19479761741837286506496, 37778931862957161709568, 5⟩, ⟨136314880, 38369227673315867361280, 75557863725914323419136, 5⟩, ⟨268435456, 75557863725914323419137, 151115727451828646838272, 5⟩, ⟨268435456, 75557863725914323419168, 302231454903657293676544, 5⟩, ⟨1879048192, 528905046081400263933952, 604462909807314587353088, 5⟩, ⟨2415919104, 680020773533228910772224, 1208925819614629174706176, 5⟩, ⟨4563402752, 1284483683340543498125312, 2417851639229258349412352, 6⟩, ⟨8858370048, 2493409502955172672831488, 4835703278458516698824704, 5⟩, ⟨17448304640, 4911261142184431022243840, 9671406556917033397649408, 5⟩, ⟨34359738368, 9671406556917033397649409, 19342813113834066795298816, 5⟩, ⟨34359738368, 9671406556917033397649440, 38685626227668133590597632, 5⟩, ⟨240518168576, 67699845898419233783545856, 77371252455336267181195264, 5⟩, ⟨309237645312, 87042659012253300578844672, 154742504910672534362390528, 5⟩, ⟨584115552256, 164413911467589567760039936, 309485009821345068724781056, 6⟩, ⟨34359738368, 9671406556917033397649410, 618970019642690137449562112, 5⟩, ⟨34359738368, 9671406556917033397649440, 1237940039285380274899124224, 5⟩, ⟨6631429505024, 1866581465484987445746335744, 2475880078570760549798248448, 5⟩, ⟨8830452760576, 2485551485127677583195897856, 4951760157141521099596496896, 5⟩, ⟨17626545782784, 4961431563698438132994146304, 9903520314283042199192993792, 6⟩, ⟨36318243454976, 10222676730661304301315424256, 19807040628566084398385987584, 5⟩, ⟨70403372351488, 19816787592986727346107056128, 39614081257132168796771975168, 5⟩, ⟨140737758887936, 39614157405291705069801046016, 79228162514264337593543950336, 5⟩, ⟨281474978807808, 79228163104560147952249602048, 158456325028528675187087900672, 5⟩] (.take 0 (.take 1 (.take 2 (.take 3 (.take 4 (.take 5 (.take 6 (.take 7 (.take 8 (.take 9 (.take 10 (.take 11 (.take 12 (.take 13 (.take 14 (.take 15 (.take 16 (.take 17 (.take 18 (.take 19 (.take 20 (.take 21 (.take 22 (.take 23 (.take 24 (.take 25 (.take 26 (.take 27 (.take 28 (.take 29 (.take 30 (.take 31 (.take 32 (.take 33 (.take 34 (.take 35 (.take 36 (.take 37 (.take 38 (.take 39 (.take 40 (.take 41 (.take 42 (.take 43 (.take 44 (.take 45 (.take 46 (.take 47 (.take 48 (.take 49 (.done))))))))))))))))))))))))))))))))))))))))))))))))))) (.run [0, 1, 2, 3, 4, 5, 6, 7, 8, 9, 10, 11, 12, 13, 14, 15, 16, 17, 18, 19, 20, 21, 22, 23, 24, 25, 26, 27, 28, 29, 30, 31, 32, 33, 34, 35, 36, 37, 38, 39, 40, 41, 42, 43, 44, 45, 46, 47, 48, 49] (.done)) ?_;simp only [drs])|refine rg 10 [0, 1, 5] [0, 1, 5, 6] [] ?_|refine nc ?_);simp (maxSteps := 1000000) [hF, hn1, hn2, hlt, hlt2])
   refine VS.pick [0, 1, 5, 6] [] (by simp [hF]) ?_;simp [hF]
   refine VS.rounds (fun m st => ∃ k : Nat, k + m = IS.length ∧ st = ⟨[(0, .imm 5 (dClsI G) ex), (1, .imm 3 (eClsI G') ex2), (5, avInt i), (6, avInt k)], [], [], []⟩) ⟨IS.length, 0, by omega, by simp⟩ ?_
   rintro m2 st ⟨k, hk, rfl⟩
   repeat first|refine n1 ?_|((first|refine rg 11 [0, 1, 5, 6] [0, 1, 5, 6, 105] [] ?_|refine nc ?_);simp (maxSteps := 1000000) [hF, hn1, hn2, hlt, hlt2])
   refine ⟨fun hltk => ?_, fun hgek => ?_⟩
   ·have hkl : k < IS.length := by omega
    have hnk := dInts_nth hkl
    have hwk : IntKind.i64.wrap ((k : Int) + 1) = (k + 1 : Nat) := by rw [IntWalk.i64_in _ (by omega)]; rfl
    repeat first|refine n1 ?_|refine n2 ?_|refine n3 ?_|refine n4 ?_|refine n5 ?_|refine n6 ?_|((first|refine rg 12 [0, 1, 5, 6] [0, 1, 5, 6] [] ?_|(refine dr 13 0 [0, 1, 5, 6] [0, 1, 5, 6, 124] [] [⟨0, 1, 324518553658426726783156020576256, 5⟩, ⟨0, 32, 649037107316853453566312041152512, 5⟩, ⟨3, 973555660975280180349468061728768, 1298074214633706907132624082305024, 5⟩, ⟨4, 1298074214633706907132624082305024, 2596148429267413814265248164610048, 5⟩, ⟨8, 2596148429267413814265248164610048, 5192296858534827628530496329220096, 6⟩, ⟨0, 64, 10384593717069655257060992658440192, 5⟩, ⟨48, 15576890575604482885591488987660288, 20769187434139310514121985316880384, 5⟩, ⟨64, 20769187434139310514121985316880384, 41538374868278621028243970633760768, 6⟩, ⟨0, 2, 83076749736557242056487941267521536, 5⟩, ⟨0, 32, 166153499473114484112975882535043072, 5⟩, ⟨768, 249230249209671726169463823802564608, 332306998946228968225951765070086144, 5⟩, ⟨1024, 332306998946228968225951765070086144, 664613997892457936451903530140172288, 5⟩, ⟨2048, 664613997892457936451903530140172288, 1329227995784915872903807060280344576, 6⟩, ⟨0, 64, 2658455991569831745807614120560689152, 5⟩, ⟨12288, 3987683987354747618711421180841033728, 5316911983139663491615228241121378304, 5⟩, ⟨16384, 5316911983139663491615228241121378304, 10633823966279326983230456482242756608, 6⟩, ⟨32896, 10675362341147605604258700452876517376, 21267647932558653966460912964485513216, 5⟩] (.take 0 (.take 1 (.take 2 (.take 3 (.take 4 (.take 5 (.take 6 (.take 7 (.take 8 (.take 9 (.take 10 (.take 11 (.take 12 (.take 13 (.take 14 (.take 15 (.take 16 (.done)))))))))))))))))) (.run [0, 1, 2, 3, 4, 5, 6, 7, 8, 9, 10, 11, 12, 13, 14, 15, 16] (.done)) ?_;simp only [drs])|refine nc ?_);simp (maxSteps := 1000000) [hF, hn1, hn2, hlt, hlt2, hnk, hkl, hwk])
    refine nextK.of [0, 1, 5, 6] [] (m2 - 1) (by omega) (by simp [hF]) ?_
    exact ⟨k + 1, by omega, by simp⟩
   ·repeat first|refine n4 ?_|refine n5 ?_|refine n6 ?_|refine n7 ?_|(refine rg 5 [0, 1, 5] [0, 1, 5] [] ?_;simp (maxSteps := 1000000) [hF, hw])
    refine nextK.of [0, 1, 5] [] (m - 1) (by omega) (by simp [hF]) ?_
    exact ⟨i + 1, by omega, by simp⟩
 ·repeat first|refine n1 ?_|refine n7 ?_|(refine rg 15 [] [4] [] ?_;simp (maxSteps := 1000000) [hF])
  (try refine nr ?_);(repeat first|refine nb_ ?_|refine nl_ ?_);refine endK.o [4] [] [] ?_;simp [hF, retK, covers, mpre]
@[simp] theorem own_ecls (l : List Cl) : (eCls l).allOwn = true := own_sq fun x hx => by obtain ⟨c, _, rfl⟩ := List.mem_map.1 hx; simp [eCl, T.allOwn]
theorem graph_r (G G' : List Cl) (r : Rel G G') (hG : G.length ≤ 100000) (hI : ∀ c ∈ G, c.items.length ≤ 100000) : Meets Try.prog 70 [.sl true () 5 (dCls G), .sl true () 3 (eCls G')] (.cons (.sub 0 [] 0 G.length false) (.cons (.sub 1 [] 0 G'.length false) .nil)) fun av X κ => av = avBool true ∧ X = [.sl true () 5 (dCls G), .sl true () 3 (eCls G')] ∧ κ = [] := by
 have hm1 : (dCls G).mid 0 G.length = dCls G := sq_mid_all _ _ (by simp)
 have hm2 : (eCls G').mid 0 G'.length = eCls G' := sq_mid_all _ _ (by simp)
 have h1 : Meets Try.prog 70 [.sl true () 3 (eCls G')] (.cons (.imm 5 (dClsI G) false) (.cons (.sub 0 [] 0 G'.length false) .nil)) fun av X κ => av = avBool true ∧ X = [.sl true () 3 (eCls G')] ∧ κ = [] := by
  refine Meets.mono (Meets.warm (d0 := .sl true () 3 (eCls G')) (Y := []) (by simp only [AV.chilled, hm2, freeze_eCls]; exact graph_i G G' r hG hI false false) ?_) ?_
  ·rintro av X κ ⟨rfl, rfl, rfl⟩; exact ⟨rfl, by simp, rfl⟩
  ·rintro av X κ ⟨av0, X0, ⟨rfl, rfl, _⟩, rfl, rfl, rfl⟩; exact ⟨rfl, rfl, rfl⟩
 refine Meets.mono (Meets.warm (d0 := .sl true () 5 (dCls G)) (Y := [.sl true () 3 (eCls G')]) (by simp only [AV.chilled, hm1, freeze_dCls]; exact h1) ?_) ?_
 ·rintro av X κ ⟨rfl, rfl, rfl⟩; exact ⟨rfl, by simp [T.allOwn], rfl⟩
 ·rintro av X κ ⟨av0, X0, ⟨rfl, rfl, _⟩, rfl, rfl, rfl⟩; exact ⟨rfl, rfl, rfl⟩
end Go.Proofs.Ytkkbcpcihadkhaa

/- A deed at the program's house and at the document's; what both tell. -/
namespace Go.Proofs.Ytkkbcpcihadkhaa
set_option linter.all false
open Go.Vc Go.Proofs
theorem cell_rel {h : Hs} (k : Hok h) (l : List Int) (t : Tg) (ht : t ∈ h.things) : (ecellOf l t).list = (cellOf l t).list ∧ (ecellOf l t).items = (cellOf l t).items ∧ ((cellOf l t).list = true → (cellOf l t).word = 0) ∧ ((cellOf l t).list = false → (ecellOf l t).word = (cellOf l t).word) := by
  rw [cellOf, ecellOf]
  cases hl : t.list with
  | true => simp
  | false => simp [k.leaves t ht hl]
theorem graph_rel {h : Hs} (k : Hok h) (who x : Int) : Rel (graphOf h who x).1 (egraphOf h who x).1 ∧ (egraphOf h who x).2 = (graphOf h who x).2 ∧ (graphOf h who x).1.length ≤ 400 ∧ ∀ c ∈ (graphOf h who x).1, c.items.length ≤ 50 := by
  by_cases ha : askOf h who [x] = 0
  · have hx := (ask_seen ha (x := x) (by simp)).1
    obtain ⟨n, rfl, hn⟩ : ∃ n : Nat, x = n ∧ n < h.things.length := ⟨x.toNat, by omega, by omega⟩
    have hv := reachA_valid k.items (x := (n : Int)) (by omega)
    have hl := reach_len k hn
    have hg : ∀ y ∈ reachA h.things n, gd h.things y ∈ h.things := fun y hy => by
      obtain ⟨j, rfl, hj, e⟩ := gd_in (hv y hy)
      rw [e]; exact List.getElem_mem hj
    rw [graph_of ha, egraphOf, if_neg (by simpa using ha), reachE_all]
    refine ⟨⟨by simp, fun i hi => ?_⟩, rfl, by simpa using hl, fun c hc => ?_⟩
    · simp only [List.length_map] at hi
      simp only [List.getElem_map]
      exact cell_rel k _ _ (hg _ (List.getElem_mem hi))
    · obtain ⟨y, hy, rfl⟩ := List.mem_map.1 hc
      have := k.few _ (hg y hy)
      rw [cellOf]; split <;> simp; exact this
  · have e1 : graphOf h who x = ([], askOf h who [x]) := by rw [graphOf, if_pos ha]
    have e2 : egraphOf h who x = ([], askOf h who [x]) := by rw [egraphOf, if_pos ha]
    rw [e1, e2]
    exact ⟨⟨rfl, fun i hi => by simp at hi⟩, rfl, by simp, by simp⟩
end Go.Proofs.Ytkkbcpcihadkhaa

/- The law's own functions: what both tell of a thing, of all things. -/
namespace Go.Proofs.Ytkkbcpcihadkhaa
set_option linter.all false
open Go.Vc Go.Proofs
set_option linter.unusedSimpArgs false
set_option linter.unusedVariables false
set_option maxRecDepth 100000
set_option maxHeartbeats 4000000
attribute [local irreducible] CallW EqK
theorem thing_i (h : Hs) (hok : Hok h) (who x i : Int) : Meets Try.prog 27 [] (.cons (avH (norm h)) (.cons (avE h) (.cons (avInt who) (.cons (avInt x) (.cons (avInt i) .nil))))) fun av X κ => av = avBool true ∧ X = [] ∧ κ = [] := by
 obtain ⟨hr, he, hg, hc⟩ := graph_rel hok who x
 have hkn := norm_hok.2 hok
 refine fb Try.func27 Try.ntmps27 [.tmp 10] fun w0 I0 F0 hF => ?_
 repeat first|refine n1 ?_|((first|refine rg 0 [0, 1, 2, 3, 4] [0, 1, 2, 3, 4] [] ?_|refine rg 1 [0, 1, 2, 3, 4] [0, 1, 2, 3, 4, 11, 12] [] ?_);simp (maxSteps := 1000000) [hF])
 refine (owner_ok (norm h) x).go [] (by simp (maxSteps := 1000000) [hF, t_owner]) ?_;rintro av X κ ⟨rfl, rfl, rfl⟩;simp (maxSteps := 1000000) [hF, t_owner]
 repeat first|refine n1 ?_|(refine rg 2 [0, 1, 2, 3, 4, 11, 12] [0, 1, 2, 3, 4, 11, 12, 13, 14] [] ?_;simp (maxSteps := 1000000) [hF])
 refine (eowner_ok h x).go [] (by simp (maxSteps := 1000000) [hF]) ?_;rintro av X κ ⟨rfl, rfl, rfl⟩;simp (maxSteps := 1000000) [hF]
 repeat first|refine n1 ?_|(refine rg 3 [0, 1, 2, 3, 4, 11, 12, 13, 14] [0, 1, 2, 3, 4, 11, 12, 13, 14, 15, 16] [] ?_;simp (maxSteps := 1000000) [hF])
 refine (word_ok (norm h) who x).go [] (by simp (maxSteps := 1000000) [hF, t_word]) ?_;rintro av X κ ⟨rfl, rfl, rfl⟩;simp (maxSteps := 1000000) [hF, t_word]
 repeat first|refine n1 ?_|(refine rg 4 [0, 1, 2, 3, 4, 11, 12, 13, 14, 15, 16] [0, 1, 2, 3, 4, 11, 12, 13, 14, 15, 16, 17, 18] [] ?_;simp (maxSteps := 1000000) [hF])
 refine (eword_ok h who x).go [] (by simp (maxSteps := 1000000) [hF]) ?_;rintro av X κ ⟨rfl, rfl, rfl⟩;simp (maxSteps := 1000000) [hF]
 repeat first|refine n1 ?_|(refine rg 5 [0, 1, 2, 3, 4, 11, 12, 13, 14, 15, 16, 17, 18] [0, 1, 2, 3, 4, 11, 12, 13, 14, 15, 16, 17, 18, 19, 20] [] ?_;simp (maxSteps := 1000000) [hF])
 refine (get_ok (norm h) who x i).go [] (by simp (maxSteps := 1000000) [hF, t_get]) ?_;rintro av X κ ⟨rfl, rfl, rfl⟩;simp (maxSteps := 1000000) [hF, t_get]
 repeat first|refine n1 ?_|(refine rg 6 [0, 1, 2, 3, 4, 11, 12, 13, 14, 15, 16, 17, 18, 19, 20] [0, 1, 2, 3, 11, 12, 13, 14, 15, 16, 17, 18, 19, 20, 21, 22] [] ?_;simp (maxSteps := 1000000) [hF])
 refine (eget_ok h who x i).go [] (by simp (maxSteps := 1000000) [hF]) ?_;rintro av X κ ⟨rfl, rfl, rfl⟩;simp (maxSteps := 1000000) [hF]
 repeat first|refine n1 ?_|(refine rg 7 [0, 1, 2, 3, 11, 12, 13, 14, 15, 16, 17, 18, 19, 20, 21, 22] [0, 1, 2, 3, 11, 12, 13, 14, 15, 16, 17, 18, 19, 20, 21, 22, 23, 24] [] ?_;simp (maxSteps := 1000000) [hF])
 refine (hShareable_ok (norm h) hkn x).go [] (by simp (maxSteps := 1000000) [hF, t_shareable hok]) ?_;rintro av X κ ⟨rfl, rfl, rfl⟩;simp (maxSteps := 1000000) [hF, t_shareable hok]
 repeat first|refine n1 ?_|(refine rg 8 [0, 1, 2, 3, 11, 12, 13, 14, 15, 16, 17, 18, 19, 20, 21, 22, 23, 24] [0, 1, 2, 3, 11, 12, 13, 14, 15, 16, 17, 18, 19, 20, 21, 22, 23, 24, 25, 26] [] ?_;simp (maxSteps := 1000000) [hF])
 refine (ehShareable_ok h hok x).go [] (by simp (maxSteps := 1000000) [hF]) ?_;rintro av X κ ⟨rfl, rfl, rfl⟩;simp (maxSteps := 1000000) [hF]
 repeat first|refine n1 ?_|(refine rg 9 [0, 1, 2, 3, 11, 12, 13, 14, 15, 16, 17, 18, 19, 20, 21, 22, 23, 24, 25, 26] [1, 2, 3, 11, 12, 13, 14, 15, 16, 17, 18, 19, 20, 21, 22, 23, 24, 25, 26, 27, 28] [] ?_;simp (maxSteps := 1000000) [hF])
 refine (graph_ok (norm h) hkn who x).go [] (by simp (maxSteps := 1000000) [hF, t_graph]) ?_;rintro av X κ ⟨rfl, rfl, rfl⟩;simp (maxSteps := 1000000) [hF, t_graph]
 repeat first|refine n1 ?_|(refine rg 10 [1, 2, 3, 11, 12, 13, 14, 15, 16, 17, 18, 19, 20, 21, 22, 23, 24, 25, 26, 27, 28] [11, 12, 13, 14, 15, 16, 17, 18, 19, 20, 21, 22, 23, 24, 25, 26, 27, 28, 29, 30] [] ?_;simp (maxSteps := 1000000) [hF])
 refine (egraph_ok h hok who x).go [] (by simp (maxSteps := 1000000) [hF, he]) ?_;rintro av X κ ⟨rfl, rfl, rfl⟩;simp (maxSteps := 1000000) [hF, he]
 repeat first|refine n1 ?_|(refine rg 11 [11, 12, 13, 14, 15, 16, 17, 18, 19, 20, 21, 22, 23, 24, 25, 26, 27, 28, 29, 30] [10] [(3, 102), (8, 107), (13, 112), (18, 117), (23, 122), (28, 127), (33, 132), (38, 137), (43, 142)] ?_;simp (maxSteps := 1000000) [hF])
 refine (graph_r (graphOf h who x).1 (egraphOf h who x).1 hr (by omega) (fun c hc' => by have := hc c hc'; omega)).go [(0, []), (1, [])] (by simp (maxSteps := 1000000) [hF]) ?_;rintro av X κ ⟨rfl, rfl, rfl⟩;simp (maxSteps := 1000000) [hF]
 (try refine nr ?_);(repeat first|refine nb_ ?_|refine nl_ ?_);refine endK.o [10] [] [] ?_;simp [hF, retK, covers, mpre]
theorem alike_i (h : Hs) (hok : Hok h) : Meets Try.prog 28 [] (.cons (avH (norm h)) (.cons (avE h) .nil)) fun av X κ => av = avBool true ∧ X = [] ∧ κ = [] := by
 have hrl := hok.rooms
 have htl := hok.things
 have hnl : (norm h).things.length = h.things.length := by simp [norm]
 refine fb Try.func28 Try.ntmps28 [.tmp 4] fun w0 I0 F0 hF => ?_
 repeat first|refine n1 ?_|((first|refine rg 0 [0, 1] [0, 1] [] ?_|refine rg 1 [0, 1] [0, 1, 11] [] ?_);simp (maxSteps := 1000000) [hF])
 refine (len_ok (norm h)).go [] (by simp (maxSteps := 1000000) [hF, hnl]) ?_;rintro av X κ ⟨rfl, rfl, rfl⟩;simp (maxSteps := 1000000) [hF, hnl]
 refine (elen_ok h).go [] (by simp (maxSteps := 1000000) [hF]) ?_;rintro av X κ ⟨rfl, rfl, rfl⟩;simp (maxSteps := 1000000) [hF]
 repeat first|refine n1 ?_|refine n2 ?_|refine n3 ?_|((first|refine rg 3 [0, 1] [0, 1, 5] [] ?_|refine nc ?_);simp (maxSteps := 1000000) [hF])
 refine VS.rounds (fun m st => ∃ (i : Nat), i + m = h.things.length + 2 ∧ st = ⟨[(0, avH (norm h)), (1, avE h), (5, avInt ((i : Int) - 1))], [], [], []⟩) ⟨h.things.length + 2, 0, by omega, by simp⟩ ?_
 rintro m st ⟨i, hi, rfl⟩
 repeat first|refine n1 ?_|(refine rg 4 [0, 1, 5] [0, 1, 5, 15] [] ?_;simp (maxSteps := 1000000) [hF])
 refine (elen_ok h).go [] (by simp (maxSteps := 1000000) [hF]) ?_;rintro av X κ ⟨rfl, rfl, rfl⟩;simp (maxSteps := 1000000) [hF]
 repeat first|(refine nc ?_;simp (maxSteps := 1000000) [hF])
 refine ⟨fun hlt => ?_, fun hge => ?_⟩
 ·repeat first|refine n1 ?_|refine n2 ?_|refine n3 ?_|(refine rg 6 [0, 1, 5] [0, 1, 5, 6] [] ?_;simp (maxSteps := 1000000) [hF])
  refine VS.rounds (fun m2 st => ∃ (j : Nat), j + m2 = h.rooms.length + 2 ∧ st = ⟨[(0, avH (norm h)), (1, avE h), (5, avInt ((i : Int) - 1)), (6, avInt ((j : Int) - 1))], [], [], []⟩) ⟨h.rooms.length + 2, 0, by omega, by simp⟩ ?_
  rintro m2 st ⟨j, hj, rfl⟩
  repeat first|refine n1 ?_|((first|refine rg 7 [0, 1, 5, 6] [0, 1, 5, 6, 24] [] ?_|refine nc ?_);simp (maxSteps := 1000000) [hF, eHI])
  refine ⟨fun hlt2 => ?_, fun hge2 => ?_⟩
  ·have hw1 : IntKind.i64.wrap (j : Int) = j := IntWalk.i64_in _ (by omega)
   repeat first|refine n1 ?_|refine n2 ?_|refine n3 ?_|(refine rg 9 [0, 1, 5, 6] [0, 1, 5, 6, 45] [(5, 32)] ?_;simp (maxSteps := 1000000) [hF])
   refine ⟨fun h0 => ?_, fun h0 => ?_⟩
   ·refine (thing_i h hok ((j : Int) - 1) ((i : Int) - 1) ((IntKind.i64.wrap (IntKind.i64.wrap ((i : Int) - 1 + IntKind.i64.wrap (2 * ((j : Int) - 1))) + 4)).tmod 3)).go [] (by simp (maxSteps := 1000000) [hF]) ?_;rintro av X κ ⟨rfl, rfl, rfl⟩;simp (maxSteps := 1000000) [hF]
    repeat first|refine n2 ?_|refine n4 ?_|refine n5 ?_|refine n6 ?_|((first|refine rg 8 [0, 1, 5, 6] [0, 1, 5, 6] [] ?_|refine nc ?_);simp (maxSteps := 1000000) [hF, hw1])
    refine nextK.of [0, 1, 5, 6] [] (m2 - 1) (by omega) (by simp [hF]) ?_
    exact ⟨j + 1, by omega, by simp⟩
   ·repeat first|refine n2 ?_|refine n4 ?_|refine n5 ?_|refine n6 ?_|((first|refine rg 8 [0, 1, 5, 6] [0, 1, 5, 6] [] ?_|refine nc ?_);simp (maxSteps := 1000000) [hF, hw1])
    refine nextK.of [0, 1, 5, 6] [] (m2 - 1) (by omega) (by simp [hF]) ?_
    exact ⟨j + 1, by omega, by simp⟩
  ·have hw1 : IntKind.i64.wrap (i : Int) = i := IntWalk.i64_in _ (by omega)
   repeat first|refine n4 ?_|refine n5 ?_|refine n6 ?_|refine n7 ?_|(refine rg 5 [0, 1, 5] [0, 1, 5] [] ?_;simp (maxSteps := 1000000) [hF, hw1])
   refine nextK.of [0, 1, 5] [] (m - 1) (by omega) (by simp [hF]) ?_
   exact ⟨i + 1, by omega, by simp⟩
 ·repeat first|refine n1 ?_|refine n7 ?_|(refine rg 11 [] [4] [] ?_;simp (maxSteps := 1000000) [hF])
  (try refine nr ?_);(repeat first|refine nb_ ?_|refine nl_ ?_);refine endK.o [4] [] [] ?_;simp [hF, retK, covers, mpre]
theorem alike_c (h : Hs) (fl : Nat → Bool) (hok : Hok h) : Meets Try.prog 28 [eH h fl, dH (norm h)] (.cons (.ptr 1 [.d]) (.cons (.ptr 0 [.d]) .nil)) fun av X κ => av = avBool true ∧ X = [eH h fl, dH (norm h)] ∧ κ = [] := by
 have h1 : Meets Try.prog 28 [dH (norm h)] (.cons (.ptr 0 [.d]) (.cons (avE h) .nil)) fun av X κ => av = avBool true ∧ X = [dH (norm h)] ∧ κ = [] :=
  warmH (alike_i h hok) rfl rfl (by simp) rfl
 have e : (AV.cons (.ptr 1 [.d]) (.cons (.ptr 0 [.d]) .nil)).chilled (eH h fl) = .cons (.ptr 0 [.d]) (.cons (avE h) .nil) := by rw [AV.chilled, chillE]; rfl
 refine Meets.mono (Meets.warm (d0 := eH h fl) (Y := [dH (norm h)]) (by rw [e]; exact h1) ?_) ?_
 ·rintro av X κ ⟨rfl, rfl, rfl⟩; exact ⟨rfl, by simp, rfl⟩
 ·rintro av X κ ⟨av0, X0, ⟨rfl, rfl, _⟩, rfl, rfl, rfl⟩; exact ⟨rfl, rfl, rfl⟩
theorem thing_c (h : Hs) (fl : Nat → Bool) (hok : Hok h) (who x i : Int) : Meets Try.prog 27 [eH h fl, dH (norm h)] (.cons (.ptr 1 [.d]) (.cons (.ptr 0 [.d]) (.cons (avInt who) (.cons (avInt x) (.cons (avInt i) .nil))))) fun av X κ => av = avBool true ∧ X = [eH h fl, dH (norm h)] ∧ κ = [] := by
 have h1 : Meets Try.prog 27 [dH (norm h)] (.cons (.ptr 0 [.d]) (.cons (avE h) (.cons (avInt who) (.cons (avInt x) (.cons (avInt i) .nil))))) fun av X κ => av = avBool true ∧ X = [dH (norm h)] ∧ κ = [] :=
  warmH (thing_i h hok who x i) rfl rfl (by simp) rfl
 have e : (AV.cons (.ptr 1 [.d]) (.cons (.ptr 0 [.d]) (.cons (avInt who) (.cons (avInt x) (.cons (avInt i) .nil))))).chilled (eH h fl) = .cons (.ptr 0 [.d]) (.cons (avE h) (.cons (avInt who) (.cons (avInt x) (.cons (avInt i) .nil)))) := by rw [AV.chilled, chillE]; rfl
 refine Meets.mono (Meets.warm (d0 := eH h fl) (Y := [dH (norm h)]) (by rw [e]; exact h1) ?_) ?_
 ·rintro av X κ ⟨rfl, rfl, rfl⟩; exact ⟨rfl, by simp, rfl⟩
 ·rintro av X κ ⟨av0, X0, ⟨rfl, rfl, _⟩, rfl, rfl, rfl⟩; exact ⟨rfl, rfl, rfl⟩
theorem merged {P Q : Prop} (h : (Unit → P) → Q) (hp : P) : Q := h fun _ => hp
theorem fitted_ok (d : Ld) (n m0 : Nat) (hn : n ≤ 1000) (hm : m0 ≤ 1000) : Meets Try.prog 52 [] (.cons (avLd d) (.cons (avInt n) (.cons (avInt m0) .nil)))
  fun av X κ => ∃ d', d'.l.length ≤ d.l.length ∧ av = avLd d' ∧ X = [.box true () (dLd d')] ∧ κ = [] := by
 unfold avLd
 refine fb Try.func52 Try.ntmps52 [.cell 6 52] fun w0 I0 F0 hF => ?_
 repeat first|refine n1 ?_|((first|refine rg 0 [0, 1, 2] [1, 2, 3, 6] [] ?_|refine rg 1 [1, 2, 3, 6] [1, 2, 3, 6, 16] [(3, 12)] ?_);simp (maxSteps := 1000000) [hF])
 refine ⟨fun h20 => ?_, fun h20 => ?_⟩
 ·repeat first|refine n1 ?_|((first|refine rg 2 [3, 6] [6] [] ?_|refine nc ?_);simp (maxSteps := 1000000) [hF])
  (try refine nr ?_);(repeat first|refine nb_ ?_|refine nl_ ?_);refine endK.o [6] [1] [] ?_;simp [hF, retK, covers, mpre, dLd]
  exact ⟨d, Nat.le_refl _, by simp, by simp⟩
 ·repeat first|(refine nc ?_;simp (maxSteps := 1000000) [hF])
  refine ⟨fun h60 => ?_, fun h60 => ?_⟩
  ·repeat first|refine n1 ?_|(refine rg 2 [3, 6] [6] [] ?_;simp (maxSteps := 1000000) [hF])
   (try refine nr ?_);(repeat first|refine nb_ ?_|refine nl_ ?_);refine endK.o [6] [1] [] ?_;simp [hF, retK, covers, mpre, dLd]
   exact ⟨d, Nat.le_refl _, by simp, by simp⟩
  ·have hk0 : 0 ≤ d.d.tmod 13 := Int.tmod_nonneg _ (by omega)
   have hk1 : d.d.tmod 13 < 13 := Int.tmod_lt_of_pos _ (by omega)
   obtain ⟨k, hk, hk13⟩ : ∃ k : Nat, d.d.tmod 13 = k ∧ k < 13 := ⟨(d.d.tmod 13).toNat, by omega, by omega⟩
   obtain ⟨v, hv⟩ : ∃ v : Int, ((.cons (.val (.int .i64 0)) (.cons (.val (.int .i64 1)) (.cons (.val (.int .i64 2)) (.cons (.val (.int .i64 3)) (.cons (.val (.int .i64 4)) (.cons (.val (.int .i64 5)) (.cons (.val (.int .i64 6)) (.cons (.val (.int .i64 7)) (.cons (.val (.int .i64 8)) (.cons (.val (.int .i64 1)) (.cons (.val (.int .i64 1)) (.cons (.val (.int .i64 4)) (.cons (.val (.int .i64 6)) .nil))))))))))))) : D).nth k = .val (.int .i64 v) := ⟨_, dInts_nth (l := [0, 1, 2, 3, 4, 5, 6, 7, 8, 1, 1, 4, 6]) (by simpa using hk13)⟩
   repeat first|refine n1 ?_|refine n2 ?_|((refine dr 3 2236928 [1, 2, 3, 6] [1, 2, 3, 6, 7] [] [⟨0, 0, 262144, 4⟩, ⟨0, 8, 524288, 5⟩, ⟨2, 524288, 1048576, 6⟩, ⟨4, 1048576, 2097152, 5⟩, ⟨9, 2359296, 4194304, 5⟩, ⟨16, 4194304, 8388608, 6⟩, ⟨0, 8, 16777216, 5⟩, ⟨64, 16777216, 33554432, 6⟩, ⟨0, 2, 67108864, 5⟩, ⟨384, 100663296, 134217728, 0⟩, ⟨0, 8, 268435456, 5⟩, ⟨1024, 268435456, 536870912, 6⟩, ⟨0, 4, 1073741824, 5⟩, ⟨6656, 1610612736, 2147483648, 0⟩, ⟨0, 8, 4294967296, 5⟩, ⟨16384, 4294967296, 8589934592, 6⟩, ⟨0, 4, 17179869184, 5⟩, ⟨106496, 25769803776, 34359738368, 0⟩, ⟨0, 8, 68719476736, 5⟩, ⟨262144, 68719476736, 137438953472, 6⟩, ⟨0, 4, 274877906944, 5⟩, ⟨1703936, 412316860416, 549755813888, 0⟩, ⟨2236960, 586405642240, 1099511627776, 5⟩, ⟨0, 0, 128, 4⟩, ⟨16777215, 1099511627904, 0, 0⟩] (.take 1 (.take 2 (.take 3 (.take 6 (.take 7 (.take 8 (.take 10 (.take 11 (.take 12 (.take 14 (.take 15 (.take 16 (.take 18 (.take 19 (.take 20 (.fork (.alt 0 (.take 4 (.take 5 (.fork (.alt 9 (.fork (.alt 13 (.fork (.alt 17 (.fork (.alt 21 (.take 22 (.fork (.alt 23 (.fork (.alt 24 (.done) (.nil))) (.nil)))) (.alt 23 (.fork (.alt 21 (.take 22 (.fork (.alt 24 (.done) (.nil)))) (.nil))) (.nil)))) (.alt 23 (.fork (.alt 17 (.fork (.alt 21 (.take 22 (.fork (.alt 24 (.done) (.nil)))) (.nil))) (.nil))) (.nil)))) (.alt 23 (.fork (.alt 13 (.fork (.alt 17 (.fork (.alt 21 (.take 22 (.fork (.alt 24 (.done) (.nil)))) (.nil))) (.nil))) (.nil))) (.nil)))) (.alt 23 (.fork (.alt 9 (.fork (.alt 13 (.fork (.alt 17 (.fork (.alt 21 (.take 22 (.fork (.alt 24 (.done) (.nil)))) (.nil))) (.nil))) (.nil))) (.nil))) (.nil)))))) (.alt 9 (.fork (.alt 0 (.take 4 (.take 5 (.fork (.alt 13 (.fork (.alt 17 (.fork (.alt 21 (.take 22 (.fork (.alt 23 (.fork (.alt 24 (.done) (.nil))) (.nil)))) (.alt 23 (.fork (.alt 21 (.take 22 (.fork (.alt 24 (.done) (.nil)))) (.nil))) (.nil)))) (.alt 23 (.fork (.alt 17 (.fork (.alt 21 (.take 22 (.fork (.alt 24 (.done) (.nil)))) (.nil))) (.nil))) (.nil)))) (.alt 23 (.fork (.alt 13 (.fork (.alt 17 (.fork (.alt 21 (.take 22 (.fork (.alt 24 (.done) (.nil)))) (.nil))) (.nil))) (.nil))) (.nil)))))) (.alt 13 (.fork (.alt 0 (.take 4 (.take 5 (.fork (.alt 17 (.fork (.alt 21 (.take 22 (.fork (.alt 23 (.fork (.alt 24 (.done) (.nil))) (.nil)))) (.alt 23 (.fork (.alt 21 (.take 22 (.fork (.alt 24 (.done) (.nil)))) (.nil))) (.nil)))) (.alt 23 (.fork (.alt 17 (.fork (.alt 21 (.take 22 (.fork (.alt 24 (.done) (.nil)))) (.nil))) (.nil))) (.nil)))))) (.alt 17 (.fork (.alt 0 (.take 4 (.take 5 (.fork (.alt 21 (.take 22 (.fork (.alt 23 (.fork (.alt 24 (.done) (.nil))) (.nil)))) (.alt 23 (.fork (.alt 21 (.take 22 (.fork (.alt 24 (.done) (.nil)))) (.nil))) (.nil)))))) (.alt 21 (.fork (.alt 0 (.take 4 (.take 5 (.take 22 (.fork (.alt 23 (.fork (.alt 24 (.done) (.nil))) (.nil)))))) (.alt 23 (.fork (.alt 0 (.take 4 (.take 5 (.take 22 (.fork (.alt 24 (.done) (.nil)))))) (.nil))) (.nil)))) (.alt 23 (.fork (.alt 0 (.take 4 (.take 5 (.fork (.alt 21 (.take 22 (.fork (.alt 24 (.done) (.nil)))) (.nil))))) (.alt 21 (.fork (.alt 0 (.take 4 (.take 5 (.take 22 (.fork (.alt 24 (.done) (.nil)))))) (.nil))) (.nil)))) (.nil))))) (.alt 23 (.fork (.alt 0 (.take 4 (.take 5 (.fork (.alt 17 (.fork (.alt 21 (.take 22 (.fork (.alt 24 (.done) (.nil)))) (.nil))) (.nil))))) (.alt 17 (.fork (.alt 0 (.take 4 (.take 5 (.fork (.alt 21 (.take 22 (.fork (.alt 24 (.done) (.nil)))) (.nil))))) (.alt 21 (.fork (.alt 0 (.take 4 (.take 5 (.take 22 (.fork (.alt 24 (.done) (.nil)))))) (.nil))) (.nil)))) (.nil)))) (.nil))))) (.alt 23 (.fork (.alt 0 (.take 4 (.take 5 (.fork (.alt 13 (.fork (.alt 17 (.fork (.alt 21 (.take 22 (.fork (.alt 24 (.done) (.nil)))) (.nil))) (.nil))) (.nil))))) (.alt 13 (.fork (.alt 0 (.take 4 (.take 5 (.fork (.alt 17 (.fork (.alt 21 (.take 22 (.fork (.alt 24 (.done) (.nil)))) (.nil))) (.nil))))) (.alt 17 (.fork (.alt 0 (.take 4 (.take 5 (.fork (.alt 21 (.take 22 (.fork (.alt 24 (.done) (.nil)))) (.nil))))) (.alt 21 (.fork (.alt 0 (.take 4 (.take 5 (.take 22 (.fork (.alt 24 (.done) (.nil)))))) (.nil))) (.nil)))) (.nil)))) (.nil)))) (.nil))))) (.alt 23 (.fork (.alt 0 (.take 4 (.take 5 (.fork (.alt 9 (.fork (.alt 13 (.fork (.alt 17 (.fork (.alt 21 (.take 22 (.fork (.alt 24 (.done) (.nil)))) (.nil))) (.nil))) (.nil))) (.nil))))) (.alt 9 (.fork (.alt 0 (.take 4 (.take 5 (.fork (.alt 13 (.fork (.alt 17 (.fork (.alt 21 (.take 22 (.fork (.alt 24 (.done) (.nil)))) (.nil))) (.nil))) (.nil))))) (.alt 13 (.fork (.alt 0 (.take 4 (.take 5 (.fork (.alt 17 (.fork (.alt 21 (.take 22 (.fork (.alt 24 (.done) (.nil)))) (.nil))) (.nil))))) (.alt 17 (.fork (.alt 0 (.take 4 (.take 5 (.fork (.alt 21 (.take 22 (.fork (.alt 24 (.done) (.nil)))) (.nil))))) (.alt 21 (.fork (.alt 0 (.take 4 (.take 5 (.take 22 (.fork (.alt 24 (.done) (.nil)))))) (.nil))) (.nil)))) (.nil)))) (.nil)))) (.nil)))) (.nil)))))))))))))))))))) (.run [1, 2, 3, 6, 7, 8, 10, 11, 12, 14, 15, 16, 18, 19, 20] (.both (.run [0, 4, 5] (.both (.chk 9 (.run [9] (.both (.chk 13 (.run [13] (.both (.chk 17 (.run [17] (.both (.chk 21 (.run [21, 22, 23, 24] (.done))) (.run [23] (.chk 21 (.run [21, 22, 24] (.done))))))) (.run [23] (.chk 17 (.run [17] (.chk 21 (.run [21, 22, 24] (.done))))))))) (.run [23] (.chk 13 (.run [13] (.chk 17 (.run [17] (.chk 21 (.run [21, 22, 24] (.done))))))))))) (.run [23] (.chk 9 (.run [9] (.chk 13 (.run [13] (.chk 17 (.run [17] (.chk 21 (.run [21, 22, 24] (.done)))))))))))) (.both (.chk 9 (.run [9] (.both (.run [0, 4, 5] (.both (.chk 13 (.run [13] (.both (.chk 17 (.run [17] (.both (.chk 21 (.run [21, 22, 23, 24] (.done))) (.run [23] (.chk 21 (.run [21, 22, 24] (.done))))))) (.run [23] (.chk 17 (.run [17] (.chk 21 (.run [21, 22, 24] (.done))))))))) (.run [23] (.chk 13 (.run [13] (.chk 17 (.run [17] (.chk 21 (.run [21, 22, 24] (.done)))))))))) (.both (.chk 13 (.run [13] (.both (.run [0, 4, 5] (.both (.chk 17 (.run [17] (.both (.chk 21 (.run [21, 22, 23, 24] (.done))) (.run [23] (.chk 21 (.run [21, 22, 24] (.done))))))) (.run [23] (.chk 17 (.run [17] (.chk 21 (.run [21, 22, 24] (.done)))))))) (.both (.chk 17 (.run [17] (.both (.run [0, 4, 5] (.both (.chk 21 (.run [21, 22, 23, 24] (.done))) (.run [23] (.chk 21 (.run [21, 22, 24] (.done)))))) (.both (.chk 21 (.run [21] (.both (.run [0, 4, 5, 22, 23, 24] (.done)) (.run [23, 0, 4, 5, 22, 24] (.done))))) (.run [23] (.both (.run [0, 4, 5] (.chk 21 (.run [21, 22, 24] (.done)))) (.chk 21 (.run [21, 0, 4, 5, 22, 24] (.done))))))))) (.run [23] (.both (.run [0, 4, 5] (.chk 17 (.run [17] (.chk 21 (.run [21, 22, 24] (.done)))))) (.chk 17 (.run [17] (.both (.run [0, 4, 5] (.chk 21 (.run [21, 22, 24] (.done)))) (.chk 21 (.run [21, 0, 4, 5, 22, 24] (.done)))))))))))) (.run [23] (.both (.run [0, 4, 5] (.chk 13 (.run [13] (.chk 17 (.run [17] (.chk 21 (.run [21, 22, 24] (.done)))))))) (.chk 13 (.run [13] (.both (.run [0, 4, 5] (.chk 17 (.run [17] (.chk 21 (.run [21, 22, 24] (.done)))))) (.chk 17 (.run [17] (.both (.run [0, 4, 5] (.chk 21 (.run [21, 22, 24] (.done)))) (.chk 21 (.run [21, 0, 4, 5, 22, 24] (.done))))))))))))))) (.run [23] (.both (.run [0, 4, 5] (.chk 9 (.run [9] (.chk 13 (.run [13] (.chk 17 (.run [17] (.chk 21 (.run [21, 22, 24] (.done)))))))))) (.chk 9 (.run [9] (.both (.run [0, 4, 5] (.chk 13 (.run [13] (.chk 17 (.run [17] (.chk 21 (.run [21, 22, 24] (.done)))))))) (.chk 13 (.run [13] (.both (.run [0, 4, 5] (.chk 17 (.run [17] (.chk 21 (.run [21, 22, 24] (.done)))))) (.chk 17 (.run [17] (.both (.run [0, 4, 5] (.chk 21 (.run [21, 22, 24] (.done)))) (.chk 21 (.run [21, 0, 4, 5, 22, 24] (.done))))))))))))))))) ?_;simp only [drs]);simp (maxSteps := 1000000) [hF, hk, hv, hk13])
   have hki : (k : Int) < 13 := by omega
   apply merged
   ·intro key
    (repeat' with_reducible refine And.intro ?_ ?_)
    all_goals (try exact hki)
    all_goals (refine (fit_ok d.who n hn).go [] (by simp (maxSteps := 1000000) [hF, hk, hv, hk13, hki]) ?_;rintro av X κ ⟨rfl, rfl, rfl⟩;simp (maxSteps := 1000000) [hF, hk, hv, hk13, hki])
    all_goals (repeat' with_reducible refine And.intro ?_ ?_)
    all_goals (refine (fit_ok d.a m0 hm).go [] (by simp (maxSteps := 1000000) [hF, hk, hv, hk13, hki]) ?_;rintro av X κ ⟨rfl, rfl, rfl⟩;simp (maxSteps := 1000000) [hF, hk, hv, hk13, hki])
    all_goals (repeat' with_reducible refine And.intro ?_ ?_)
    all_goals (refine (fit_ok d.b m0 hm).go [] (by simp (maxSteps := 1000000) [hF, hk, hv, hk13, hki]) ?_;rintro av X κ ⟨rfl, rfl, rfl⟩;simp (maxSteps := 1000000) [hF, hk, hv, hk13, hki])
    all_goals (repeat' with_reducible refine And.intro ?_ ?_)
    all_goals (refine (fit_ok d.c m0 hm).go [] (by simp (maxSteps := 1000000) [hF, hk, hv, hk13, hki]) ?_;rintro av X κ ⟨rfl, rfl, rfl⟩;simp (maxSteps := 1000000) [hF, hk, hv, hk13, hki])
    (repeat' with_reducible refine And.intro ?_ ?_)
    all_goals (first | (refine VS.pick [1, 2, 3, 6, 7] [0, 1, 3] (by simp [hF]) ?_; simp [hF]; exact key ()) | (refine VS.pick [1, 2, 3, 6, 7] [0, 1, 2] (by simp [hF]) ?_; simp [hF]; exact key ()))
   repeat first|refine n1 ?_|refine n3 ?_|((first|refine rg 4 [1, 2, 3, 6, 7] [1, 2, 3, 6, 7, 42] [] ?_|refine rg 5 [1, 2, 3, 6, 7, 42] [1, 2, 3, 6, 7, 42, 43] [] ?_|refine nc ?_);simp (maxSteps := 1000000) [hF])
   refine ⟨fun h1 => ?_, fun h1 => ?_⟩
   ·repeat first|refine n1 ?_|refine n3 ?_|(refine rg 6 [2, 3, 6, 7] [2, 3, 6, 7, 8] [] ?_;simp (maxSteps := 1000000) [hF])
    refine VS.rounds (fun m st => ∃ (i : Nat) (P : List Int), i + m = 3 ∧ P.length = i ∧ i ≤ d.l.length ∧ st = ⟨[(2, avInt m0), (3, .ptr 0 [.d]), (6, .ptr 1 [.d]), (7, .ptr 2 [.d]), (8, avInt i)],
     [.box true () (dLd d), .box true () (.agg (.cons (.val (.int .i64 0)) (.cons (.val (.int .i64 0)) (.cons (.val (.int .i64 0)) (.cons (.val (.int .i64 0)) (.cons (.val (.int .i64 0)) (.cons (.sl true () 1 .nil) .nil))))))), .box true () (.agg (.cons (.val (.int .i64 v)) (.cons (.val (.int .i64 (fitN d.who n))) (.cons (.val (.int .i64 (fitN d.a m0))) (.cons (.val (.int .i64 (fitN d.b m0))) (.cons (.val (.int .i64 (fitN d.c m0))) (.cons (.sl true () 1 (dInts P)) .nil)))))))], [], []⟩) ⟨3, 0, [], by omega, by simp, by omega, by simp [dLd, dInts, sq]⟩ ?_
    rintro m st ⟨i, P, hi, hP, hid, rfl⟩
    have hw : IntKind.i64.wrap ((i : Int) + 1) = (i + 1 : Nat) := by rw [IntWalk.i64_in _ (by omega)]; rfl
    have hp := dInts_app1 P
    have hmP : ∀ z : Int, (dInts (P ++ [z])).mid 0 (P.length + 1) = dInts (P ++ [z]) := fun z => sq_mid_all _ _ (by simp)
    have hm0 : (dInts P).mid 0 P.length = dInts P := by simp
    have c1 : (P.length + 1) * 8 ≤ 140737488355328 := by omega
    have c2 : P.length ≤ 9223372036854775806 := by omega
    apply merged
    ·intro key
     repeat first|refine n1 ?_|(refine rg 7 [2, 3, 6, 7, 8] [2, 3, 6, 7, 8, 53] [(5, 50)] ?_;simp (maxSteps := 1000000) [hF, dLd])
     refine ⟨fun hlt => ?_, fun hge => ?_⟩
     ·have hlt' : i < d.l.length := hlt
      have hn1 := dInts_nth hlt'
      repeat first|(refine nc ?_;simp (maxSteps := 1000000) [hF])
      refine ⟨fun h3 => ?_, fun h3 => ?_⟩
      ·repeat first|refine n1 ?_|refine n2 ?_|refine n3 ?_
       refine ghostL 2 [.d, .f 5] ?_;simp (maxSteps := 1000000) [hF, St.lift, AV.lift, liftPl, stripP, nodeAV, isNode, dLd]
       repeat first|((refine dr 9 256 [2, 3, 6, 7, 8] [2, 3, 6, 7, 8] [] [⟨0, 128, 72057594037927936, 5⟩, ⟨1, 72057594037927936, 144115188075855872, 6⟩, ⟨0, 8, 288230376151711744, 5⟩, ⟨4, 288230376151711744, 576460752303423488, 6⟩, ⟨0, 256, 1152921504606846976, 5⟩, ⟨24, 1729382256910270464, 2305843009213693952, 5⟩, ⟨32, 2305843009213693952, 4611686018427387904, 6⟩, ⟨0, 4, 9223372036854775808, 5⟩, ⟨192, 13835058055282163712, 18446744073709551616, 0⟩, ⟨256, 18446744073709551616, 36893488147419103232, 4⟩, ⟨770, 37037603335494959104, 73786976294838206464, 0⟩, ⟨2047, 128, 147573952589676412928, 5⟩, ⟨4095, 221360928884514619392, 0, 0⟩] (.take 0 (.take 1 (.take 2 (.take 3 (.take 4 (.take 5 (.take 6 (.take 7 (.fork (.alt 8 (.fork (.alt 9 (.fork (.alt 10 (.take 11 (.fork (.alt 12 (.done) (.nil)))) (.nil))) (.nil))) (.nil))))))))))) (.run [0, 1, 2, 3, 4, 5, 6, 7] (.chk 8 (.run [8, 9, 10, 11, 12] (.done)))) ?_;simp only [drs]);simp (maxSteps := 1000000) [hF, hn1, hlt', dLd])
       refine (fit_ok d.l[i] m0 hm).go [] (by simp (maxSteps := 1000000) [hF, dLd, hp, hmP, hm0, c1, c2]) ?_;rintro av X κ ⟨rfl, rfl, rfl⟩;simp (maxSteps := 1000000) [hF, dLd, hp, hmP, hm0, c1, c2]
       repeat first|refine n4 ?_|refine n5 ?_|refine n6 ?_|(refine rg 8 [2, 3, 6, 7, 8] [2, 3, 6, 7, 8] [] ?_;simp (maxSteps := 1000000) [hF, hw])
       refine nextK.of [2, 3, 6, 7, 8] [0, 1, 2] (m - 1) (by omega) (by simp [hF]) ?_
       refine ⟨i + 1, P ++ [(fitN d.l[i] m0 : Int)], by omega, by simp [hP], by omega, ?_⟩
       simp [dLd]
      ·repeat first|refine n1 ?_|refine n4 ?_|refine n7 ?_
       refine VS.pick [6, 7] [0, 1, 2] (by simp [hF]) ?_;simp [hF]
       exact key ()
     ·repeat first|refine n1 ?_|refine n4 ?_|refine n7 ?_|(refine nc ?_;simp (maxSteps := 1000000) [hF])
      refine VS.pick [6, 7] [0, 1, 2] (by simp [hF]) ?_;simp [hF]
      exact key ()
    refine VS.cold 2 [.d, .f 5] (by simp (maxSteps := 1000000) [hF, T.freeze]) (by simp (maxSteps := 1000000) [hF, T.freeze]) (by simp (maxSteps := 1000000) [hF, T.freeze]) ?_;simp [hF, St.cold, T.freeze]
    repeat first|(refine rg 15 [6, 7] [6] [] ?_;simp (maxSteps := 1000000) [hF])
    (try refine nr ?_);(repeat first|refine nb_ ?_|refine nl_ ?_);refine endK.o [6] [1] [] ?_;simp [hF, retK, covers, mpre, dLd]
    refine ⟨⟨v, fitN d.who n, fitN d.a m0, fitN d.b m0, fitN d.c m0, P⟩, by show P.length ≤ _; omega, ?_⟩
    simp
   ·repeat first|refine n1 ?_|((first|refine rg 10 [1, 3, 6, 7, 42] [1, 3, 6, 7, 42, 68] [] ?_|refine nc ?_);simp (maxSteps := 1000000) [hF])
    refine ⟨fun h2 => ?_, fun h2 => ?_⟩
    ·repeat first|(refine rg 11 [3, 6, 7] [6, 7] [] ?_;simp (maxSteps := 1000000) [hF])
     refine (fit_ok d.b 3 (by omega)).go [] (by simp (maxSteps := 1000000) [hF]) ?_;rintro av X κ ⟨rfl, rfl, rfl⟩;simp (maxSteps := 1000000) [hF]
     repeat first|refine n1 ?_|refine n4 ?_
     refine VS.cold 2 [.d, .f 5] (by simp (maxSteps := 1000000) [hF, T.freeze]) (by simp (maxSteps := 1000000) [hF, T.freeze]) (by simp (maxSteps := 1000000) [hF, T.freeze]) ?_;simp [hF, St.cold, T.freeze]
     repeat first|(refine rg 15 [6, 7] [6] [] ?_;simp (maxSteps := 1000000) [hF])
     (try refine nr ?_);(repeat first|refine nb_ ?_|refine nl_ ?_);refine endK.o [6] [1] [] ?_;simp [hF, retK, covers, mpre, dLd]
     refine ⟨⟨v, fitN d.who n, fitN d.a m0, fitN d.b 3, fitN d.c m0, []⟩, by simp, ?_⟩
     simp [dInts, sq]
    ·repeat first|refine n1 ?_|((first|refine rg 12 [1, 3, 6, 7, 42] [1, 3, 6, 7, 42, 74] [] ?_|refine nc ?_);simp (maxSteps := 1000000) [hF])
     apply merged
     ·intro key
      refine ⟨fun h6 => ?_, fun h6 => ?_⟩
      ·have h6' : (v = 6) = True := by simp [h6]
       repeat first|refine n2 ?_|(refine nc ?_;simp (maxSteps := 1000000) [hF, h6'])
       refine VS.pick [1, 3, 6, 7] [0, 1, 2] (by simp [hF]) ?_;simp [hF]
       exact key ()
      ·repeat first|((first|refine rg 13 [1, 3, 6, 7, 42] [1, 3, 6, 7, 74] [] ?_|refine nc ?_);simp (maxSteps := 1000000) [hF])
       refine ⟨fun h7 => ?_, fun h7 => ?_⟩
       ·have h7' : (v = 7) = True := by simp [h7]
        refine VS.pick [1, 3, 6, 7] [0, 1, 2] (by simp [hF]) ?_;simp [hF]
        exact key ()
       ·repeat first|refine n1 ?_|refine n2 ?_|refine n4 ?_
        refine VS.cold 2 [.d, .f 5] (by simp (maxSteps := 1000000) [hF, T.freeze]) (by simp (maxSteps := 1000000) [hF, T.freeze]) (by simp (maxSteps := 1000000) [hF, T.freeze]) ?_;simp [hF, St.cold, T.freeze]
        repeat first|(refine rg 15 [6, 7] [6] [] ?_;simp (maxSteps := 1000000) [hF])
        (try refine nr ?_);(repeat first|refine nb_ ?_|refine nl_ ?_);refine endK.o [6] [1] [] ?_;simp [hF, retK, covers, mpre, dLd]
        refine ⟨⟨v, fitN d.who n, fitN d.a m0, fitN d.b m0, fitN d.c m0, []⟩, by simp, ?_⟩
        simp [dInts, sq]
     repeat first|(refine rg 14 [1, 3, 6, 7] [6, 7] [] ?_;simp (maxSteps := 1000000) [hF])
     refine (fit_ok d.a n hn).go [] (by simp (maxSteps := 1000000) [hF]) ?_;rintro av X κ ⟨rfl, rfl, rfl⟩;simp (maxSteps := 1000000) [hF]
     repeat first|refine n1 ?_|refine n4 ?_
     refine VS.cold 2 [.d, .f 5] (by simp (maxSteps := 1000000) [hF, T.freeze]) (by simp (maxSteps := 1000000) [hF, T.freeze]) (by simp (maxSteps := 1000000) [hF, T.freeze]) ?_;simp [hF, St.cold, T.freeze]
     repeat first|(refine rg 15 [6, 7] [6] [] ?_;simp (maxSteps := 1000000) [hF])
     (try refine nr ?_);(repeat first|refine nb_ ?_|refine nl_ ?_);refine endK.o [6] [1] [] ?_;simp [hF, retK, covers, mpre, dLd]
     refine ⟨⟨v, fitN d.who n, fitN d.a n, fitN d.b m0, fitN d.c m0, []⟩, by simp, ?_⟩
     simp [dInts, sq]
theorem does_ok {n : Nat} {h : Hs} (f : Fine n h) (hn : n ≤ 8) (fl : Nat → Bool) (d : Ld) : Meets Try.prog 20 [dH (norm h), eH h fl] (.cons (.ptr 0 [.d]) (.cons (.ptr 1 [.d]) (.cons (avLd d) .nil)))
  fun av X κ => ∃ d' fl', av = avBool true ∧ X = [dH (norm (doE h d').1), eH (doE h d').1 fl'] ∧ κ = [(0, [.d]), (1, [.d])] := by
 have hok := f.good.ok
 have hkn := norm_hok.2 hok
 have hrl := f.rooms
 have htl := hok.things
 have htn : (norm h).things.length ≤ 400 := by simpa [norm] using htl
 have hdv : avLd d = .agg (.cons (avInt d.d) (.cons (avInt d.who) (.cons (avInt d.a) (.cons (avInt d.b) (.cons (avInt d.c) (.cons (.imm 1 (dInts d.l) false) .nil)))))) := rfl
 refine fb Try.func20 Try.ntmps20 [.tmp 6] fun w0 I0 F0 hF => ?_
 repeat first|refine n1 ?_|((first|refine rg 0 [0, 1, 2] [0, 1, 5] [] ?_|(refine dr 1 0 [0, 1, 5] [0, 1, 5] [] [⟨0, 32, 4096, 6⟩, ⟨0, 2, 8192, 5⟩, ⟨2, 8192, 16384, 5⟩, ⟨4, 16384, 32768, 5⟩, ⟨8, 32768, 65536, 6⟩, ⟨16, 65536, 131072, 5⟩, ⟨0, 2, 262144, 5⟩, ⟨64, 262144, 524288, 5⟩, ⟨128, 524288, 1048576, 5⟩, ⟨256, 1048576, 2097152, 6⟩, ⟨512, 2097152, 4194304, 5⟩, ⟨1057, 4329472, 8388608, 0⟩, ⟨4095, 8388640, 0, 0⟩] (.take 0 (.take 1 (.take 2 (.take 3 (.take 4 (.take 5 (.take 6 (.take 7 (.take 8 (.take 9 (.take 10 (.fork (.alt 11 (.fork (.alt 12 (.done) (.nil))) (.nil)))))))))))))) (.run [0, 1, 2, 3, 4, 5, 6, 7, 8, 9, 10, 11, 12] (.done)) ?_;simp only [drs]));simp (maxSteps := 1000000) [hF, hdv, eH])
 refine (fitted_ok d h.rooms.length h.things.length (by omega) (by omega)).go [] (by simp (maxSteps := 1000000) [hF, eH, hdv, avLd, dLd]) ?_;rintro av X κ ⟨d', hdl, rfl, rfl, rfl⟩;simp (maxSteps := 1000000) [hF, eH, hdv, avLd, dLd]
 have hl6 : (d'.l.take 60).length ≤ 100000000 := by rw [List.length_take]; omega
 repeat first|refine n1 ?_|refine n3 ?_|((first|refine rg 2 [0, 1, 5] [0, 1, 5, 7, 8] [] ?_|refine rg 3 [0, 1, 5, 7, 8] [0, 1, 5, 7, 8, 9, 10] [] ?_|refine rg 4 [0, 1, 5, 7, 8, 9, 10] [0, 1, 5, 7, 8, 9, 10, 25] [] ?_|refine rg 5 [0, 1, 5, 7, 8, 9, 10, 25] [0, 1, 5, 7, 8, 9, 10, 25, 26] [] ?_|refine nc ?_);simp (maxSteps := 1000000) [hF])
 refine ⟨fun h0 => ?_, fun h0 => ?_⟩
 ·repeat first|refine n1 ?_|(refine rg 6 [0, 1, 5] [1, 5, 7, 9] [] ?_;simp (maxSteps := 1000000) [hF])
  refine (leaf_ok (norm h) htn d'.who d'.a).go [(0, [])] (by simp (maxSteps := 1000000) [hF, t_leaf, nrm, eH, dH]) ?_;rintro av X κ ⟨rfl, rfl, rfl⟩;simp (maxSteps := 1000000) [hF, t_leaf, nrm, eH, dH]
  repeat first|(refine rg 7 [1, 5, 7, 9] [7, 8, 9, 10] [] ?_;simp (maxSteps := 1000000) [hF])
  refine (eleaf_ok h fl htl d'.who d'.a).go [(1, [])] (by simp (maxSteps := 1000000) [hF, eH]) ?_;rintro av X κ ⟨rfl, rfl, rfl⟩;simp (maxSteps := 1000000) [hF, eH]
  repeat first|refine n1 ?_|refine n4 ?_|(refine rg 36 [7, 8, 9, 10] [6] [(3, 210)] ?_;simp (maxSteps := 1000000) [hF])
  refine VS.widen [(0, [.d]), (1, [.d])] (by simp [covers, mpre]) ?_
  (try refine nr ?_);(repeat first|refine nb_ ?_|refine nl_ ?_);refine endK.o [6] [0, 1] [(0, [.d]), (1, [.d])] ?_;simp [hF, retK, covers, mpre, eH]
  refine ⟨d', ?_⟩
  rw [show doE h d' = leafOf h d'.who d'.a from by simp [doE, h0]]
  exact ⟨rfl, ⟨_, rfl⟩, rfl⟩
 ·repeat first|refine n1 ?_|((first|refine rg 8 [0, 1, 5, 7, 8, 9, 10, 25] [0, 1, 5, 7, 8, 9, 10, 25, 46] [] ?_|refine nc ?_);simp (maxSteps := 1000000) [hF])
  refine ⟨fun h1 => ?_, fun h1 => ?_⟩
  ·obtain ⟨N, hN⟩ : ∃ N, N = (d'.l.take 60).length := ⟨_, rfl⟩
   have hN2 : N ≤ d'.l.length ∧ N ≤ 60 ∧ (d'.l.length ≤ 60 → N = d'.l.length) ∧ (60 < d'.l.length → N = 60) := by rw [hN, List.length_take]; omega
   have hmn : (if (60 : Int) < (d'.l.length : Int) then (60 : Int) else d'.l.length) = (N : Int) := by split <;> omega
   have hNl : (N : Int) ≤ d'.l.length := by omega
   have hN0 : 0 ≤ (N : Int) := by omega
   have hmid : (dInts d'.l).mid 0 N = dInts (d'.l.take 60) := by
    rw [dInts_mid, List.drop_zero, hN, List.length_take]
    congr 1
    by_cases h9 : 60 ≤ d'.l.length
    ·rw [Nat.min_eq_left h9]
    ·rw [Nat.min_eq_right (by omega), List.take_of_length_le (by omega), List.take_of_length_le (by omega)]
   have hNn := hN2.1
   repeat first|refine n1 ?_|((first|refine rg 9 [0, 1, 5] [0, 1, 5, 11] [] ?_|refine rg 10 [0, 1, 5, 11] [1, 5, 7, 9, 11] [] ?_);simp (maxSteps := 1000000) [hF, hmn, hNl, hN0, hNn, hmid])
   refine (list_ok (norm h) htn d'.who (d'.l.take 60) false hl6).go [(0, [])] (by simp (maxSteps := 1000000) [hF, t_list, nrm, eH, dH]) ?_;rintro av X κ ⟨rfl, rfl, rfl⟩;simp (maxSteps := 1000000) [hF, t_list, nrm, eH, dH]
   repeat first|(refine rg 11 [1, 5, 7, 9, 11] [7, 8, 9, 10] [] ?_;simp (maxSteps := 1000000) [hF])
   refine (elist_ok h fl htl d'.who (d'.l.take 60) false hl6).go [(1, [])] (by simp (maxSteps := 1000000) [hF, eH]) ?_;rintro av X κ ⟨rfl, rfl, rfl⟩;simp (maxSteps := 1000000) [hF, eH]
   repeat first|refine n1 ?_|refine n4 ?_|(refine rg 36 [7, 8, 9, 10] [6] [(3, 210)] ?_;simp (maxSteps := 1000000) [hF])
   refine VS.widen [(0, [.d]), (1, [.d])] (by simp [covers, mpre]) ?_
   (try refine nr ?_);(repeat first|refine nb_ ?_|refine nl_ ?_);refine endK.o [6] [0, 1] [(0, [.d]), (1, [.d])] ?_;simp [hF, retK, covers, mpre, eH]
   refine ⟨{ d' with l := d'.l.take 60 }, ?_⟩
   rw [show doE h { d' with l := d'.l.take 60 } = listOf h d'.who (d'.l.take 60) from by simp [doE, h1]]
   exact ⟨rfl, ⟨_, rfl⟩, rfl⟩
  ·repeat first|refine n1 ?_|((first|refine rg 12 [0, 1, 5, 7, 8, 9, 10, 25] [0, 1, 5, 7, 8, 9, 10, 25, 71] [] ?_|refine nc ?_);simp (maxSteps := 1000000) [hF])
   refine ⟨fun h2 => ?_, fun h2 => ?_⟩
   ·repeat first|refine n1 ?_|(refine rg 13 [0, 1, 5, 7, 8] [1, 5, 7, 8, 9] [] ?_;simp (maxSteps := 1000000) [hF])
    refine (set_ok (norm h) hkn d'.who d'.a d'.b d'.c).go [(0, [])] (by simp (maxSteps := 1000000) [hF, t_set, nrm, eH, dH]) ?_;rintro av X κ ⟨rfl, rfl, rfl⟩;simp (maxSteps := 1000000) [hF, t_set, nrm, eH, dH]
    repeat first|(refine rg 14 [1, 5, 7, 8, 9] [7, 8, 9, 10] [] ?_;simp (maxSteps := 1000000) [hF])
    refine (eset_ok h fl hok d'.who d'.a d'.b d'.c).go [(1, [])] (by simp (maxSteps := 1000000) [hF, eH]) ?_;rintro av X κ ⟨rfl, rfl, rfl⟩;simp (maxSteps := 1000000) [hF, eH]
    repeat first|refine n1 ?_|refine n4 ?_|(refine rg 36 [7, 8, 9, 10] [6] [(3, 210)] ?_;simp (maxSteps := 1000000) [hF])
    refine VS.widen [(0, [.d]), (1, [.d])] (by simp [covers, mpre]) ?_
    (try refine nr ?_);(repeat first|refine nb_ ?_|refine nl_ ?_);refine endK.o [6] [0, 1] [(0, [.d]), (1, [.d])] ?_;simp [hF, retK, covers, mpre, eH]
    refine ⟨d', ?_⟩
    rw [show doE h d' = ((setE h d'.who d'.a d'.b d'.c).1, 0, (setE h d'.who d'.a d'.b d'.c).2) from by simp [doE, h2]]
    exact ⟨rfl, ⟨_, rfl⟩, rfl⟩
   ·repeat first|refine n1 ?_|((first|refine rg 15 [0, 1, 5, 7, 8, 9, 10, 25] [0, 1, 5, 7, 8, 9, 10, 25, 93] [] ?_|refine nc ?_);simp (maxSteps := 1000000) [hF])
    refine ⟨fun h3 => ?_, fun h3 => ?_⟩
    ·repeat first|refine n1 ?_|(refine rg 16 [0, 1, 5, 7, 8] [1, 5, 7, 8, 9] [] ?_;simp (maxSteps := 1000000) [hF])
     refine (push_ok (norm h) hkn d'.who d'.a d'.b).go [(0, [])] (by simp (maxSteps := 1000000) [hF, t_push, nrm, eH, dH]) ?_;rintro av X κ ⟨rfl, rfl, rfl⟩;simp (maxSteps := 1000000) [hF, t_push, nrm, eH, dH]
     repeat first|(refine rg 17 [1, 5, 7, 8, 9] [7, 8, 9, 10] [] ?_;simp (maxSteps := 1000000) [hF])
     refine (epush_ok h fl hok d'.who d'.a d'.b).go [(1, [])] (by simp (maxSteps := 1000000) [hF, eH]) ?_;rintro av X κ ⟨rfl, rfl, rfl⟩;simp (maxSteps := 1000000) [hF, eH]
     repeat first|refine n1 ?_|refine n4 ?_|(refine rg 36 [7, 8, 9, 10] [6] [(3, 210)] ?_;simp (maxSteps := 1000000) [hF])
     refine VS.widen [(0, [.d]), (1, [.d])] (by simp [covers, mpre]) ?_
     (try refine nr ?_);(repeat first|refine nb_ ?_|refine nl_ ?_);refine endK.o [6] [0, 1] [(0, [.d]), (1, [.d])] ?_;simp [hF, retK, covers, mpre, eH]
     refine ⟨d', ?_⟩
     rw [show doE h d' = ((pushE h d'.who d'.a d'.b).1, 0, (pushE h d'.who d'.a d'.b).2) from by simp [doE, h3]]
     exact ⟨rfl, ⟨_, rfl⟩, rfl⟩
    ·repeat first|refine n1 ?_|((first|refine rg 18 [0, 1, 5, 7, 8, 9, 10, 25] [0, 1, 5, 7, 8, 9, 10, 25, 111] [] ?_|refine nc ?_);simp (maxSteps := 1000000) [hF])
     refine ⟨fun h4 => ?_, fun h4 => ?_⟩
     ·repeat first|refine n1 ?_|(refine rg 19 [0, 1, 5, 7, 8] [1, 5, 7, 8, 9] [] ?_;simp (maxSteps := 1000000) [hF])
      refine (freeze_ok (norm h) hkn d'.who d'.a).go [(0, [])] (by simp (maxSteps := 1000000) [hF, t_freeze f.good.raw, nrm, eH, dH]) ?_;rintro av X κ ⟨rfl, rfl, rfl⟩;simp (maxSteps := 1000000) [hF, t_freeze f.good.raw, nrm, eH, dH]
      repeat first|(refine rg 20 [1, 5, 7, 8, 9] [7, 8, 9, 10] [] ?_;simp (maxSteps := 1000000) [hF])
      refine (efreeze_ok h fl hok d'.who d'.a).go [(1, [])] (by simp (maxSteps := 1000000) [hF, eH]) ?_;rintro av X κ ⟨rfl, rfl, rfl⟩;simp (maxSteps := 1000000) [hF, eH]
      repeat first|refine n1 ?_|refine n4 ?_|(refine rg 36 [7, 8, 9, 10] [6] [(3, 210)] ?_;simp (maxSteps := 1000000) [hF])
      refine VS.widen [(0, [.d]), (1, [.d])] (by simp [covers, mpre]) ?_
      (try refine nr ?_);(repeat first|refine nb_ ?_|refine nl_ ?_);refine endK.o [6] [0, 1] [(0, [.d]), (1, [.d])] ?_;simp [hF, retK, covers, mpre, eH]
      refine ⟨d', ?_⟩
      rw [show doE h d' = ((freezeE h d'.who d'.a).1, 0, (freezeE h d'.who d'.a).2) from by simp [doE, h4]]
      exact ⟨rfl, ⟨_, rfl⟩, rfl⟩
     ·repeat first|refine n1 ?_|((first|refine rg 21 [0, 1, 5, 7, 8, 9, 10, 25] [0, 1, 5, 7, 8, 9, 10, 25, 125] [] ?_|refine nc ?_);simp (maxSteps := 1000000) [hF])
      refine ⟨fun h5 => ?_, fun h5 => ?_⟩
      ·repeat first|refine n1 ?_|(refine rg 22 [0, 1, 5, 7, 8] [1, 5, 7, 8, 9] [] ?_;simp (maxSteps := 1000000) [hF])
       refine (share_ok (norm h) hkn d'.who d'.a).go [(0, [])] (by simp (maxSteps := 1000000) [hF, t_share hok, nrm, eH, dH]) ?_;rintro av X κ ⟨rfl, rfl, rfl⟩;simp (maxSteps := 1000000) [hF, t_share hok, nrm, eH, dH]
       repeat first|(refine rg 23 [1, 5, 7, 8, 9] [7, 8, 9, 10] [] ?_;simp (maxSteps := 1000000) [hF])
       refine (eshare_ok h fl hok d'.who d'.a).go [(1, [])] (by simp (maxSteps := 1000000) [hF, eH]) ?_;rintro av X κ ⟨rfl, rfl, rfl⟩;simp (maxSteps := 1000000) [hF, eH]
       repeat first|refine n1 ?_|refine n4 ?_|(refine rg 36 [7, 8, 9, 10] [6] [(3, 210)] ?_;simp (maxSteps := 1000000) [hF])
       refine VS.widen [(0, [.d]), (1, [.d])] (by simp [covers, mpre]) ?_
       (try refine nr ?_);(repeat first|refine nb_ ?_|refine nl_ ?_);refine endK.o [6] [0, 1] [(0, [.d]), (1, [.d])] ?_;simp [hF, retK, covers, mpre, eH]
       refine ⟨d', ?_⟩
       rw [show doE h d' = ((shareE h d'.who d'.a).1, 0, (shareE h d'.who d'.a).2) from by simp [doE, h5]]
       exact ⟨rfl, ⟨_, rfl⟩, rfl⟩
      ·repeat first|refine n1 ?_|((first|refine rg 24 [0, 1, 5, 7, 8, 9, 10, 25] [0, 1, 5, 7, 8, 9, 10, 25, 139] [] ?_|refine nc ?_);simp (maxSteps := 1000000) [hF])
       refine ⟨fun h6 => ?_, fun h6 => ?_⟩
       ·repeat first|refine n1 ?_|(refine rg 25 [0, 1, 5] [1, 5, 7, 9] [] ?_;simp (maxSteps := 1000000) [hF])
        refine (send_ok (norm h) hkn d'.who d'.a d'.b).go [(0, [])] (by simp (maxSteps := 1000000) [hF, t_send hok, nrm, eH, dH]) ?_;rintro av X κ ⟨rfl, rfl, rfl⟩;simp (maxSteps := 1000000) [hF, t_send hok, nrm, eH, dH]
        repeat first|(refine rg 26 [1, 5, 7, 9] [7, 8, 9, 10] [] ?_;simp (maxSteps := 1000000) [hF])
        refine (esend_ok h fl hok d'.who d'.a d'.b).go [(1, [])] (by simp (maxSteps := 1000000) [hF, eH]) ?_;rintro av X κ ⟨fl2, rfl, rfl, rfl⟩;simp (maxSteps := 1000000) [hF, eH]
        repeat first|refine n1 ?_|refine n4 ?_|(refine rg 36 [7, 8, 9, 10] [6] [(3, 210)] ?_;simp (maxSteps := 1000000) [hF])
        refine VS.widen [(0, [.d]), (1, [.d])] (by simp [covers, mpre]) ?_
        (try refine nr ?_);(repeat first|refine nb_ ?_|refine nl_ ?_);refine endK.o [6] [0, 1] [(0, [.d]), (1, [.d])] ?_;simp [hF, retK, covers, mpre, eH]
        refine ⟨d', ?_⟩
        rw [show doE h d' = sendE h d'.who d'.a d'.b from by simp [doE, h6]]
        exact ⟨rfl, ⟨_, rfl⟩, rfl⟩
       ·repeat first|refine n1 ?_|((first|refine rg 27 [0, 1, 5, 7, 8, 9, 10, 25] [0, 1, 5, 7, 8, 9, 10, 25, 163] [] ?_|refine nc ?_);simp (maxSteps := 1000000) [hF])
        refine ⟨fun h7 => ?_, fun h7 => ?_⟩
        ·repeat first|refine n1 ?_|(refine rg 28 [0, 1, 5, 7, 8] [1, 5, 7, 8, 9] [] ?_;simp (maxSteps := 1000000) [hF])
         refine (move_ok (norm h) hkn d'.who d'.a d'.b).go [(0, [])] (by simp (maxSteps := 1000000) [hF, t_move hok, nrm, eH, dH]) ?_;rintro av X κ ⟨rfl, rfl, rfl⟩;simp (maxSteps := 1000000) [hF, t_move hok, nrm, eH, dH]
         repeat first|(refine rg 29 [1, 5, 7, 8, 9] [7, 8, 9, 10] [] ?_;simp (maxSteps := 1000000) [hF])
         refine (emove_ok h fl hok d'.who d'.a d'.b).go [(1, [])] (by simp (maxSteps := 1000000) [hF, eH]) ?_;rintro av X κ ⟨fl2, rfl, rfl, rfl⟩;simp (maxSteps := 1000000) [hF, eH]
         repeat first|refine n1 ?_|refine n4 ?_|(refine rg 36 [7, 8, 9, 10] [6] [(3, 210)] ?_;simp (maxSteps := 1000000) [hF])
         refine VS.widen [(0, [.d]), (1, [.d])] (by simp [covers, mpre]) ?_
         (try refine nr ?_);(repeat first|refine nb_ ?_|refine nl_ ?_);refine endK.o [6] [0, 1] [(0, [.d]), (1, [.d])] ?_;simp [hF, retK, covers, mpre, eH]
         refine ⟨d', ?_⟩
         rw [show doE h d' = ((moveE h d'.who d'.a d'.b).1, 0, (moveE h d'.who d'.a d'.b).2) from by simp [doE, h7]]
         exact ⟨rfl, ⟨_, rfl⟩, rfl⟩
        ·repeat first|refine n1 ?_|((first|refine rg 30 [0, 1, 5, 7, 8, 9, 10, 25] [0, 1, 5, 7, 8, 9, 10, 25, 181] [] ?_|refine nc ?_);simp (maxSteps := 1000000) [hF])
         refine ⟨fun h8 => ?_, fun h8 => ?_⟩
         ·repeat first|refine n1 ?_|(refine rg 31 [0, 1, 5] [1, 5, 7, 9] [] ?_;simp (maxSteps := 1000000) [hF])
          refine (take_ok (norm h) hkn d'.who).go [(0, [])] (by simp (maxSteps := 1000000) [hF, t_take, nrm, eH, dH]) ?_;rintro av X κ ⟨rfl, rfl, rfl⟩;simp (maxSteps := 1000000) [hF, t_take, nrm, eH, dH]
          repeat first|(refine rg 32 [1, 5, 7, 9] [7, 8, 9, 10] [] ?_;simp (maxSteps := 1000000) [hF])
          refine (etake_ok h fl hok d'.who).go [(1, [])] (by simp (maxSteps := 1000000) [hF, eH]) ?_;rintro av X κ ⟨rfl, rfl, rfl⟩;simp (maxSteps := 1000000) [hF, eH]
          repeat first|refine n1 ?_|refine n4 ?_|(refine rg 36 [7, 8, 9, 10] [6] [(3, 210)] ?_;simp (maxSteps := 1000000) [hF])
          refine VS.widen [(0, [.d]), (1, [.d])] (by simp [covers, mpre]) ?_
          (try refine nr ?_);(repeat first|refine nb_ ?_|refine nl_ ?_);refine endK.o [6] [0, 1] [(0, [.d]), (1, [.d])] ?_;simp [hF, retK, covers, mpre, eH]
          refine ⟨d', ?_⟩
          rw [show doE h d' = takeOf h d'.who from by simp [doE, h8]]
          exact ⟨rfl, ⟨_, rfl⟩, rfl⟩
         ·repeat first|refine n1 ?_|((first|refine rg 33 [0, 1, 5, 7, 8, 9, 10, 25] [0, 1, 5, 7, 8, 9, 10, 197] [] ?_|refine nc ?_);simp (maxSteps := 1000000) [hF])
          refine ⟨fun h9 => ?_, fun h9 => ?_⟩
          ·repeat first|refine n1 ?_|(refine rg 34 [0, 1, 5, 7, 8] [1, 5, 7, 8, 9] [] ?_;simp (maxSteps := 1000000) [hF])
           refine (over_ok (norm h) hkn d'.who).go [(0, [])] (by simp (maxSteps := 1000000) [hF, t_over, nrm, eH, dH]) ?_;rintro av X κ ⟨rfl, rfl, rfl⟩;simp (maxSteps := 1000000) [hF, t_over, nrm, eH, dH]
           repeat first|(refine rg 35 [1, 5, 7, 8, 9] [7, 8, 9, 10] [] ?_;simp (maxSteps := 1000000) [hF])
           refine (eover_ok h fl hok d'.who).go [(1, [])] (by simp (maxSteps := 1000000) [hF, eH]) ?_;rintro av X κ ⟨rfl, rfl, rfl⟩;simp (maxSteps := 1000000) [hF, eH]
           repeat first|refine n1 ?_|refine n4 ?_|(refine rg 36 [7, 8, 9, 10] [6] [(3, 210)] ?_;simp (maxSteps := 1000000) [hF])
           refine VS.widen [(0, [.d]), (1, [.d])] (by simp [covers, mpre]) ?_
           (try refine nr ?_);(repeat first|refine nb_ ?_|refine nl_ ?_);refine endK.o [6] [0, 1] [(0, [.d]), (1, [.d])] ?_;simp [hF, retK, covers, mpre, eH]
           refine ⟨d', ?_⟩
           rw [show doE h d' = ((overOf h d'.who).1, 0, (overOf h d'.who).2) from by simp [doE, h9]]
           exact ⟨rfl, ⟨_, rfl⟩, rfl⟩
          ·repeat first|refine n1 ?_|refine n2 ?_|refine n4 ?_|(refine rg 36 [7, 8, 9, 10] [6] [(3, 210)] ?_;simp (maxSteps := 1000000) [hF])
           refine VS.widen [(0, [.d]), (1, [.d])] (by simp [covers, mpre]) ?_
           (try refine nr ?_);(repeat first|refine nb_ ?_|refine nl_ ?_);refine endK.o [6] [0, 1] [(0, [.d]), (1, [.d])] ?_;simp [hF, retK, covers, mpre, eH]
           refine ⟨d', ?_⟩
           rw [show doE h d' = (h, 0, 0) from by simp [doE, h0, h1, h2, h3, h4, h5, h6, h7, h8, h9]]
           exact ⟨rfl, ⟨_, rfl⟩, rfl⟩
attribute [simp high] head_dH head_eH
@[simp high] theorem node_dH (h : Hs) : isNode (dH h) = true := rfl
@[simp high] theorem node_eH (h : Hs) (fl : Nat → Bool) : isNode (eH h fl) = true := rfl
theorem played_ok (nn : Int) (L : List Ld) (ex : Bool) : Meets Try.prog 11 [] (.cons (avInt nn) (.cons (.imm 6 (dLds L) ex) .nil))
  fun av X κ => ∃ n h fl, 1 ≤ n ∧ n ≤ 4 ∧ Fine n h ∧ av = .tup (.cons (.ptr 0 [.d]) (.cons (.ptr 1 [.d]) (.cons (avBool true) .nil))) ∧ X = [dH (norm h), eH h fl] ∧ κ = [] := by
 obtain ⟨h1, h2⟩ := fitN_eq nn (n := 4) (by omega)
 have h1' : (IntKind.u64.wrap nn).tmod 4 = (fitN nn 4 : Int) := h1
 have w2 : IntKind.i64.wrap (fitN nn 4 : Int) = fitN nn 4 := IntWalk.i64_in _ (by omega)
 have w3 : IntKind.i64.wrap (1 + (fitN nn 4 : Int)) = ((fitN nn 4 + 1 : Nat) : Int) := by rw [IntWalk.i64_in _ (by omega)]; omega
 obtain ⟨n, hn⟩ : ∃ n, n = fitN nn 4 + 1 := ⟨_, rfl⟩
 rw [← hn] at w3
 have hb := f_born (n := n) (by omega)
 refine fb Try.func11 Try.ntmps11 [.tmp 4, .tmp 5, .tmp 6] fun w0 I0 F0 hF => ?_
 repeat first|refine n1 ?_|((first|refine rg 0 [0, 1] [0, 1] [] ?_|refine rg 1 [0, 1] [1, 7] [] ?_|refine rg 2 [1, 7] [1, 7, 8, 9] [] ?_);simp (maxSteps := 1000000) [hF, h1', w2, w3])
 refine (new_ok n (by omega) (by omega)).go [] (by simp (maxSteps := 1000000) [hF]) ?_;rintro av X κ ⟨rfl, rfl, rfl⟩;simp (maxSteps := 1000000) [hF]
 repeat first|refine n1 ?_|(refine rg 3 [1, 7, 8, 9] [1, 8, 9, 10, 11] [] ?_;simp (maxSteps := 1000000) [hF])
 refine (enew_ok n (by omega) (by omega)).go [] (by simp (maxSteps := 1000000) [hF]) ?_;rintro av X κ ⟨rfl, rfl, rfl⟩;simp (maxSteps := 1000000) [hF]
 repeat first|refine n1 ?_|refine n2 ?_|refine n3 ?_|((first|refine rg 4 [1, 8, 9, 10, 11] [1, 8, 10, 34] [(2, 30)] ?_|refine rg 6 [1, 8, 10] [1, 8, 10, 12] [] ?_|refine nc ?_);simp (maxSteps := 1000000) [hF])
 have hnb : dH (newH n) = dH (norm (bornE n)) := rfl
 have heb : eH ⟨List.replicate n ⟨[], false⟩, []⟩ (fun _ => true) = eH (bornE n) fun _ => true := rfl
 refine VS.rounds (fun m st => ∃ (i : Nat) (h : Hs) (fl : Nat → Bool), i + m = L.length ∧ Fine n h ∧ st = ⟨[(1, .imm 6 (dLds L) ex), (8, .ptr 0 [.d]), (10, .ptr 1 [.d]), (12, avInt i)], [dH (norm h), eH h fl], [], []⟩) ⟨L.length, 0, bornE n, fun _ => true, by omega, hb, by simp [hnb, heb]⟩ ?_
 rintro m st ⟨i, h, fl, hi, hf, rfl⟩
 repeat first|refine n1 ?_|(refine rg 7 [1, 8, 10, 12] [1, 8, 10, 12, 42] [(4, 39)] ?_;simp (maxSteps := 1000000) [hF])
 refine ⟨fun hlt => ?_, fun hge => ?_⟩
 ·repeat first|(refine nc ?_;simp (maxSteps := 1000000) [hF])
  refine ⟨fun h90 => ?_, fun h90 => ?_⟩
  ·have hn1 := dLds_nth hlt
   have hw : IntKind.i64.wrap ((i : Int) + 1) = (i + 1 : Nat) := by rw [IntWalk.i64_in _ (by omega)]; rfl
   repeat first|refine n1 ?_|refine n2 ?_|refine n3 ?_|(refine rg 9 [1, 8, 10, 12] [1, 8, 10, 12, 52] [] ?_;simp (maxSteps := 1000000) [hF, hn1, hlt])
   refine (does_ok hf (by omega) fl L[i]).go [(0, []), (1, [])] (by simp (maxSteps := 1000000) [hF, avLd, dH, eH]) ?_;rintro av X κ ⟨d', fl', rfl, rfl, rfl⟩;simp (maxSteps := 1000000) [hF, avLd, dH, eH]
   repeat first|refine n2 ?_|refine n4 ?_|refine n5 ?_|refine n6 ?_|((first|refine rg 8 [1, 8, 10, 12] [1, 8, 10, 12] [] ?_|refine nc ?_);simp (maxSteps := 1000000) [hF, hw])
   refine nextK.of [1, 8, 10, 12] [0, 1] (m - 1) (by omega) (by simp [hF]) ?_
   exact ⟨i + 1, _, fl', by omega, f_do hf d', by simp [dH, eH, norm]⟩
  ·repeat first|refine n1 ?_|refine n7 ?_|(refine rg 11 [8, 10] [4, 5, 6] [] ?_;simp (maxSteps := 1000000) [hF])
   (try refine nr ?_);(repeat first|refine nb_ ?_|refine nl_ ?_);refine endK.o [4, 5, 6] [0, 1] [] ?_;simp [hF, retK, covers, mpre]
   exact ⟨n, by omega, by omega, h, hf, rfl, fl, rfl⟩
 ·repeat first|refine n1 ?_|refine n7 ?_|((first|refine rg 11 [8, 10] [4, 5, 6] [] ?_|refine nc ?_);simp (maxSteps := 1000000) [hF])
  (try refine nr ?_);(repeat first|refine nb_ ?_|refine nl_ ?_);refine endK.o [4, 5, 6] [0, 1] [] ?_;simp [hF, retK, covers, mpre]
  exact ⟨n, by omega, by omega, h, hf, rfl, fl, rfl⟩
end Go.Proofs.Ytkkbcpcihadkhaa

/- From what a row's argument reads as to trees that cannot change. -/
namespace Go.Vc
set_option linter.all false
open T (hdr blk)
abbrev allB (w : World) : Nat → Prop := fun b => b < w.heap.size
def Reads (P : Program) (t : TypeId) (z : Nat) (good : D → Prop) : Prop :=
  ∀ (H : Type) (enc : TypeId × Value → H) (w : World) (fuel : Nat) (cs : List Value) (x : DataW H × List MemPlace), DataW.trod enc P w 0 (fun _ => true) true fuel t cs = some x →
    ∃ g : G, T.Holds w.heap (allB w) g ∧ g.free = true ∧ g.cells = cs ∧ g.width = z ∧ good g.erase
theorem reads_int {P : Program} {t : TypeId} {k : IntKind} (ht : P.underlying t = some (.int k)) : Reads P t 1 fun d => ∃ n, d = .val (.int k n) := fun H enc w fuel cs x h => by
  obtain ⟨n, rfl, _, _⟩ := DataW.trod_int ht h
  exact ⟨.val (.int k n), rfl, rfl, rfl, rfl, n, rfl⟩
def FieldsRead (P : Program) : List Field → List (Nat × (D → Prop)) → Nat → Prop
  | [], [], _ => True
  | f :: fs, (z, good) :: r, o => Reads P f.type z good ∧ P.cellsOf f.type = z ∧ f.offset = o ∧ FieldsRead P fs r (o + z)
  | _, _, _ => False
def fieldsGood : List (Nat × (D → Prop)) → D → Prop
  | [], d => d = .nil
  | (_, good) :: r, d => ∃ a t, d = .cons a t ∧ good a ∧ fieldsGood r t
def fieldsSize : List (Nat × (D → Prop)) → Nat
  | [] => 0
  | (z, _) :: r => z + fieldsSize r
theorem reads_struct {P : Program} {t : TypeId} {fs : Array Field} (ht : P.underlying t = some (.struct fs)) {gs : List (Nat × (D → Prop))} (hf : FieldsRead P fs.toList gs 0) (hz : P.cellsOf t = fieldsSize gs) :
    Reads P t (fieldsSize gs) fun d => ∃ s, d = .agg s ∧ fieldsGood gs s := fun H enc w fuel cs x h => by
  obtain ⟨xs, n, _, _, hl, hlen, he⟩ := DataW.trod_struct ht h
  have each : ∀ f ∈ fs.toList, ∃ y, DataW.trod enc P w 0 (fun _ => true) true n f.type ((cs.drop f.offset).take (P.cellsOf f.type)) = some y := fun f hm => by
    obtain ⟨i, hi, rfl⟩ := List.getElem_of_mem hm
    have h1 := he i fs[i] (by simp at hi; simp [hi])
    rw [List.getElem?_eq_getElem (by simp at hi; omega)] at h1
    exact ⟨_, h1⟩
  have key : ∀ (l : List Field) (gs : List (Nat × (D → Prop))) (o : Nat), FieldsRead P l gs o → (∀ f ∈ l, f ∈ fs.toList) → cs.length = o + fieldsSize gs →
      ∃ s : G, T.Holds w.heap (allB w) s ∧ s.free = true ∧ s.cells = cs.drop o ∧ s.width = fieldsSize gs ∧ fieldsGood gs s.erase := by
    intro l
    induction l with
    | nil =>
      intro gs o h1 _ h2
      cases gs with
      | nil => exact ⟨.nil, trivial, rfl, by simp only [fieldsSize] at h2; simp [T.cells, h2], rfl, rfl⟩
      | cons _ _ => exact h1.elim
    | cons f l ih =>
      intro gs o h1 hm h2
      cases gs with
      | nil => exact h1.elim
      | cons p r =>
        obtain ⟨z, good⟩ := p
        obtain ⟨k1, k2, k3, k4⟩ := h1
        simp only [fieldsSize] at h2
        obtain ⟨s, s1, s2, s3, s4, s5⟩ := ih r (o + z) k4 (fun f hf => hm f (by simp [hf])) (by omega)
        obtain ⟨y, hy⟩ := each f (hm f (by simp))
        obtain ⟨g, g1, g2, g3, g4, g5⟩ := k1 H enc w n _ y hy
        refine ⟨.cons g s, ⟨g1, s1⟩, by simp [T.free, g2, s2], ?_, by simp [T.width, g4, s4, fieldsSize], _, _, rfl, g5, s5⟩
        simp only [T.cells, g3, s3, k2, k3]
        rw [← List.drop_drop, List.take_append_drop]
  obtain ⟨s, s1, s2, s3, s4, s5⟩ := key fs.toList gs 0 hf (fun _ h => h) (by rw [hl, hz]; omega)
  exact ⟨.agg s, s1, s2, by simpa [T.cells] using s3, s4, _, rfl, s5⟩
theorem erase_agg {g : G} {s : D} (h : g.erase = .agg s) : ∃ s', g = .agg s' ∧ s'.erase = s := by
  cases g <;> simp only [T.erase] at h <;> cases h
  exact ⟨_, rfl, rfl⟩
theorem erase_cons {g : G} {a t : D} (h : g.erase = .cons a t) : ∃ a' t', g = .cons a' t' ∧ a'.erase = a ∧ t'.erase = t := by
  cases g <;> simp only [T.erase] at h <;> cases h
  exact ⟨_, _, rfl, rfl, rfl⟩
theorem erase_val {g : G} {v : Value} (h : g.erase = .val v) : g = .val v := by
  cases g <;> simp only [T.erase] at h <;> cases h
  rfl
theorem erase_nil {g : G} (h : g.erase = .nil) : g = .nil := by
  cases g <;> simp only [T.erase] at h <;> cases h
  rfl
theorem map_of {α β : Type} {f : β → α} : ∀ {l : List α}, (∀ x ∈ l, ∃ y, x = f y) → ∃ ys : List β, l = ys.map f
  | [], _ => ⟨[], rfl⟩
  | x :: l, h => by
    obtain ⟨y, hy⟩ := h x (by simp)
    obtain ⟨ys, hys⟩ := map_of (l := l) (f := f) fun x hx => h x (List.mem_cons_of_mem _ hx)
    exact ⟨y :: ys, by rw [hy, hys]; rfl⟩
theorem cells?_at {w : World} {a : Addr} {n : Nat} {cs : List Value} (h : w.cells? 0 a n = some cs) : cs.length = n ∧ ∀ r v, cs[r]? = some v → w.cell? (a.add r) = some v := by
  obtain ⟨_, h1, h2⟩ := World.cells?_some h
  refine ⟨h1, fun r v hv => ?_⟩
  have hr : r < n := by rw [← h1]; exact (List.getElem?_eq_some_iff.1 hv).1
  have := h2 r hr
  rw [this, hv]
theorem reads_elems {P : Program} {e : TypeId} {z : Nat} {good : D → Prop} (he : Reads P e z good) {H : Type} {enc : TypeId × Value → H} {w : World} {n : Nat} {at_ : Nat → List Value} : ∀ (len i0 : Nat),
    (∀ i, i < len → ∃ y, DataW.trod enc P w 0 (fun _ => true) true n e (at_ (i0 + i)) = some y) →
    ∃ s : G, ∃ l : List D, T.Holds w.heap (allB w) s ∧ s.free = true ∧ s.uni z ∧ s.len = len ∧ s.erase = sq l ∧ l.length = len ∧ (∀ d ∈ l, good d) ∧ s.cells = ((List.range len).map fun i => at_ (i0 + i)).flatten
  | 0, i0, _ => ⟨.nil, [], trivial, rfl, trivial, rfl, rfl, rfl, by simp, rfl⟩
  | len + 1, i0, h => by
    obtain ⟨y, hy⟩ := h 0 (by omega)
    obtain ⟨g, g1, g2, g3, g4, g5⟩ := he H enc w n _ y hy
    obtain ⟨s, l, s1, s2, s3, s4, s5, s6, s7, s8⟩ := reads_elems he len (i0 + 1) fun i hi => by
      have := h (i + 1) (by omega)
      rwa [show i0 + (i + 1) = i0 + 1 + i by omega] at this
    refine ⟨.cons g s, g.erase :: l, ⟨g1, s1⟩, by simp [T.free, g2, s2], ⟨g4, s3⟩, by simp [T.len, s4], by simp [T.erase, sq, s5], by simp [s6], fun d hd => ?_, ?_⟩
    · rcases List.mem_cons.1 hd with rfl | hd
      · exact g5
      · exact s7 d hd
    · rw [List.range_succ_eq_map]
      simp only [T.cells, g3, s8, List.map_cons, List.flatten_cons, List.map_map, Nat.add_zero]
      congr 3
      funext i
      simp only [Function.comp]
      congr 1; omega
theorem flat_at {α : Type} {z : Nat} (hz : 0 < z) : ∀ (l : List (List α)) (_ : ∀ c ∈ l, c.length = z) (j : Nat) (v : α), l.flatten[j]? = some v → ∃ c, l[j / z]? = some c ∧ c[j % z]? = some v
  | [], _, j, v, h => by simp at h
  | c :: l, hl, j, v, h => by
    have hc := hl c (by simp)
    simp only [List.flatten_cons] at h
    rcases Nat.lt_or_ge j z with hj | hj
    · rw [List.getElem?_append_left (by omega)] at h
      exact ⟨c, by rw [Nat.div_eq_of_lt hj]; rfl, by rw [Nat.mod_eq_of_lt hj]; exact h⟩
    · rw [List.getElem?_append_right (by omega), hc] at h
      obtain ⟨c', h1, h2⟩ := flat_at hz l (fun c hc => hl c (by simp [hc])) (j - z) v h
      refine ⟨c', ?_, ?_⟩
      · rw [show j / z = (j - z) / z + 1 by rw [Nat.div_eq_sub_div hz hj]]; simpa using h1
      · rw [Nat.mod_eq_sub_mod hj]; exact h2
theorem reads_slice {P : Program} {t e : TypeId} {z : Nat} {good : D → Prop} (ht : P.underlying t = some (.slice e)) (he : Reads P e z good) (hc : P.cellsOf e = z) (hz : 0 < z) :
    Reads P t 1 fun d => ∃ l : List D, (∀ x ∈ l, good x) ∧ l.length ≤ 2 ^ 63 - 1 ∧ d = .sl false () z (sq l) := fun H enc w fuel cs x h => by
  rcases DataW.trod_slice ht h with ⟨rfl, _⟩ | ⟨a, len, cap, elems, rest, n, _, rfl, _, hb, hlc, hm, hlen, hel, hsp, _⟩
  · exact ⟨.sl false (.slice none 0 0) z .nil, ⟨trivial, trivial, fun _ => rfl, rfl, rfl, rfl⟩, rfl, rfl, rfl, [], by simp, by simp, rfl⟩
  · obtain ⟨b, o, sp⟩ := a
    have hcm' : cap ≤ 2 ^ 63 - 1 := by
      have : maxLen = 2 ^ 63 - 1 := by decide
      omega
    rcases cap with _ | cap
    · obtain rfl : len = 0 := by omega
      exact ⟨.sl false (.slice (some ⟨b, o, sp⟩) 0 0) z .nil, ⟨trivial, trivial, fun _ => rfl, rfl, (fun h => by cases h), rfl⟩, rfl, rfl, rfl, [], by simp, by simp, rfl⟩
    · obtain ⟨hsp1, hsp2⟩ := hsp rfl
      rw [hc] at hel hsp2
      have each : ∀ i, i < cap + 1 → ∃ cs, w.cells? 0 ((⟨b, o, sp⟩ : Addr).add (i * z)) z = some cs ∧ ∃ y, DataW.trod enc P w 0 (fun _ => true) true n e cs = some y := fun i hi => by
        by_cases h1 : i < len
        · have h2 := hel i h1
          rw [List.getElem?_eq_getElem (by omega)] at h2
          obtain ⟨cs, h3, h4⟩ := Option.bind_eq_some_iff.1 h2
          exact ⟨cs, h3, _, h4⟩
        · have h2 := hsp2 (i - len) (by omega)
          rw [List.getElem?_eq_getElem (by omega), show len + (i - len) = i by omega] at h2
          obtain ⟨cs, h3, h4⟩ := Option.bind_eq_some_iff.1 h2
          exact ⟨cs, h3, _, h4⟩
      have hspot : sp = none := by
        obtain ⟨cs0, h1, _⟩ := each 0 (by omega)
        obtain ⟨h2, h3⟩ := cells?_at h1
        have h4 := h3 0 _ (List.getElem?_eq_getElem (by omega))
        have e0 : ((⟨b, o, sp⟩ : Addr).add (0 * z)).add 0 = ⟨b, o, sp⟩ := by simp [Addr.add]
        rw [e0] at h4
        unfold World.cell? at h4
        split at h4
        · cases sp with
          | none => rfl
          | some _ => simp at h4
        · cases h4
      subst hspot
      have hadd : ∀ k, (⟨b, o, none⟩ : Addr).add k = ⟨b, o + k, none⟩ := fun k => by unfold Addr.add; split <;> simp_all
      obtain ⟨csl, hl1, _⟩ := each cap (by omega)
      obtain ⟨hl2, hl3⟩ := cells?_at hl1
      have hl4 := hl3 (z - 1) _ (List.getElem?_eq_getElem (by omega))
      rw [hadd] at hl4
      have hadd2 : ∀ (o' k : Nat), (⟨b, o', none⟩ : Addr).add k = ⟨b, o' + k, none⟩ := fun o' k => by unfold Addr.add; split <;> simp_all
      rw [hadd2] at hl4
      obtain ⟨row, e', fr, hrow⟩ : ∃ row e' fr, w.heap[b]? = some (.cells row e' fr) := by
        unfold World.cell? at hl4
        split at hl4
        · rename_i c _ _ heq; exact ⟨_, _, _, heq⟩
        · cases hl4
      have cell : ∀ k v, w.cell? ⟨b, k, none⟩ = some v → row[k]? = some v := fun k v hk => by
        unfold World.cell? at hk
        simp only [hrow] at hk
        simpa using hk
      have hblt : b < w.heap.size := by
        rcases Nat.lt_or_ge b w.heap.size with h' | h'
        · exact h'
        · rw [Array.getElem?_eq_none h'] at hrow; cases hrow
      have hsz : o + (cap + 1) * z ≤ row.size := by
        have h5 := cell _ _ hl4
        have h6 := (Array.getElem?_eq_some_iff.1 h5).1
        rw [Nat.add_mul]; omega
      obtain ⟨s, l, s1, s2, s3, s4, s5, s6, s7, s8⟩ := reads_elems (enc := enc) (w := w) (n := n) (at_ := fun i => (w.cells? 0 ((⟨b, o, none⟩ : Addr).add (i * z)) z).getD []) he len 0 fun i hi => by
        obtain ⟨cs, h1, h2⟩ := each (0 + i) (by omega)
        rw [h1]; exact h2
      refine ⟨.sl false (.slice (some ⟨b, o, none⟩) len (cap + 1)) z s, ⟨s1, s3, fun _ => s2, rfl, s4.symm, hlc, hcm', fun _ => hblt, row, e', fr, hrow, (fun h => by cases h), hsz, fun j v hj => ?_⟩, by simp [T.free, s2], rfl, rfl, l, s7, by omega, by simp [T.erase, s5]⟩
      rw [s8] at hj
      obtain ⟨c, c1, c2⟩ := flat_at hz _ (fun c hcm => by
        obtain ⟨i, hi, rfl⟩ := List.mem_map.1 hcm
        obtain ⟨cs, h1, _⟩ := each (0 + i) (by have := List.mem_range.1 hi; omega)
        rw [h1]; exact (cells?_at h1).1) j v hj
      rw [List.getElem?_map] at c1
      cases hr : (List.range len)[j / z]? with
      | none => rw [hr] at c1; cases c1
      | some i =>
        rw [hr] at c1
        obtain ⟨hi1, hi2⟩ := List.getElem?_eq_some_iff.1 hr
        simp only [List.length_range] at hi1
        simp only [List.getElem_range] at hi2
        subst hi2
        obtain ⟨cs, h1, _⟩ := each (0 + j / z) (by omega)
        simp only [Option.map_some, Option.some.injEq, h1, Option.getD_some] at c1
        subst c1
        have h2 := (cells?_at h1).2 _ _ c2
        rw [hadd, hadd2] at h2
        have h3 := cell _ _ h2
        rw [← h3]
        congr 1
        have := Nat.div_add_mod j z
        rw [Nat.mul_comm] at this
        simp only [Nat.zero_add]
        omega
theorem imm_of_trod {P : Program} {t e : TypeId} {z : Nat} {good : D → Prop} (ht : P.underlying t = some (.slice e)) (he : Reads P e z good) (hc : P.cellsOf e = z) (hz : 0 < z) {H : Type} {enc : TypeId × Value → H} {w : World}
    {r : Reach} {b0 : Nat} {v : Value} {d : DataW H} {ps : List MemPlace} (hv : Value.okWide P w r b0 t v) (h : DataW.Trod enc P w 0 (fun _ => true) true t v d ps) :
    ∃ l : List D, (∀ d ∈ l, good d) ∧ l.length ≤ 2 ^ 63 - 1 ∧ Rl w.heap (allB w) [] (.imm z (sq l) false) true [v] := by
  obtain ⟨fuel, h⟩ := h
  have hok : Cell.ok P w r b0 t v := by
    unfold Value.okWide at hv
    rw [ht] at hv
    simp only [Cell.okWide, ht] at hv
    exact hv
  have hform : v = .slice none 0 0 ∨ ∃ a len cap, v = .slice (some a) len cap := by
    unfold Cell.ok at hok
    rw [ht] at hok
    split at hok <;> try exact hok.elim
    all_goals first
      | (rename_i heq; cases heq; done)
      | skip
    · exact .inl rfl
    · exact .inr ⟨_, _, _, rfl⟩
  obtain ⟨g, g1, g2, g3, g4, l, l1, l2, l3⟩ := reads_slice ht he hc hz H enc w fuel _ _ h
  have hg : ∃ s, g = .sl false v z s ∧ s.erase = sq l := by
    cases g <;> simp only [T.erase, reduceCtorEq] at l3
    rename_i o a z' s
    simp only [T.sl.injEq, true_and] at l3
    obtain ⟨rfl, rfl, l3⟩ := l3
    have e : [a] = v.cells.toList := g3
    rcases hform with rfl | ⟨_, _, _, rfl⟩ <;> (simp [Value.cells] at e; subst e; exact ⟨s, rfl, l3⟩)
  obtain ⟨s, rfl, hs⟩ := hg
  exact ⟨l, l1, l2, v, rfl, s, hs, g1, fun h => by cases h⟩
end Go.Vc
