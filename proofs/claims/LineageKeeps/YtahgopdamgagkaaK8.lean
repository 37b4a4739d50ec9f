/- More plain facts, and what is not there. -/
import Derived.Test.YtahgopdamgagkaaK6
import Derived.Test.YtahgopdamgagkaaRows
import Derived.Test.YtahgopdamgagkaaK7
import Derived.WalkKit
import Derived.ProofKit
import Derived.OpenShut
import Derived.ShutString
import Derived.ChangeOld
import Derived.Carry
namespace Go.Proofs.Ytahgopdamgagkaa
set_option linter.all false
open Go.Vc Go.Proofs
set_option linter.unusedSimpArgs false
set_option linter.unusedVariables false
set_option maxRecDepth 100000
set_option maxHeartbeats 4000000
attribute [local irreducible] CallW EqK

theorem part_nat (x : Int) : ∃ a : Nat, a < 14 ∧ (IntKind.u64.wrap x).tmod 14 = (a : Int) ∧ IntKind.u64.wrap (a : Int) = a ∧ IntKind.i64.wrap (a : Int) = a := by
  have h3 := partOf_nonneg x (n := 14)
  have h4 := partOf_lt x (n := 14) (by omega)
  refine ⟨(partOf x 14).toNat, by omega, ?_, ?_, ?_⟩
  · show partOf x 14 = _; omega
  · have : (((partOf x 14).toNat : Nat) : Int) = partOf x 14 := by omega
    rw [this]; simp only [IntKind.wrap, IntKind.bits, IntKind.signed]; simp; omega
  · exact IntWalk.i64_in _ (by omega)
theorem w14 : IntKind.u64.wrap 14 = 14 := by decide

/- (*cabochon/lineage.Lineage).Below -/
theorem Below_no {L : List Th} (hl : L.length ≤ 1000) (t : Int) (hv : val L t = false) : Meets Try.prog 27 [dL L] (.cons (.ptr 0 [.d]) (.cons (avInt t) .nil))
    fun av X κ => av = avTwo (.nils 1) 1 ∧ X = [dL L] ∧ κ = [] := by
  refine Meets.of_vs tabOk Try.func27 (body := ?_) ?_ (by kernel_rfl) Try.ntmps27 (rs := [.tmp 4, .tmp 5]) (by kernel_rfl) rfl (by simp [AV.len]) (by simp only [envOf]; exact rfl) ?_
  rotate_left
  · rfl
  intro w0 I0 F0 hF
  repeat first
    | refine VS.seq ?_
    | (refine VS.keepAt 0 [0, 1] ?_; generalize hK : VS _ _ _ = KK; (try simp); (try subst hK); refine VS.region tabOk (id := 0) [] (by kernel_rfl) ?_; generalize hK : VS _ _ _ = KK; simp (maxSteps := 1000000) [hF]; (try subst hK); try (refine VS.keep [0, 1] ?_; generalize hK : VS _ _ _ = KK; simp; (try subst hK)))
    | (refine VS.keepAt 1 [0, 1] ?_; generalize hK : VS _ _ _ = KK; (try simp); (try subst hK); refine VS.region tabOk (id := 1) [] (by kernel_rfl) ?_; generalize hK : VS _ _ _ = KK; simp (maxSteps := 1000000) [hF]; (try subst hK); try (refine VS.keep [0, 1, 14] ?_; generalize hK : VS _ _ _ = KK; simp; (try subst hK)))
  refine (is_ok L hl t).call [(0, [])] (by simp) (by simp (maxSteps := 1000000) [hF, dL, hv]) (by simp (maxSteps := 1000000) [hF, dL, hv]) (by simp (maxSteps := 1000000) [hF, dL, hv]) (by simp) ?_
  rintro av X κ ⟨rfl, rfl, rfl⟩
  generalize hK : VS _ _ _ = KK; simp (maxSteps := 1000000) [hF, dL, hv]; (try subst hK)
  repeat first
    | refine VS.seq ?_
    | (refine VS.keepAt 2 [] ?_; generalize hK : VS _ _ _ = KK; (try simp); (try subst hK); refine VS.region tabOk (id := 2) [] (by kernel_rfl) ?_; generalize hK : VS _ _ _ = KK; simp (maxSteps := 1000000) [hF]; (try subst hK); try (refine VS.keep [4, 5] ?_; generalize hK : VS _ _ _ = KK; simp; (try subst hK)))
    | (refine VS.cond ?_; generalize hK1 : VS _ _ _ = KK1; generalize hK2 : VS _ _ _ = KK2; simp (maxSteps := 1000000) [hF]; (try subst hK1); (try subst hK2))
  try refine VS.ret ?_
  repeat first | refine blockN_ret ?_ | refine loopN_ret ?_
  refine endK.of [4, 5] [0] [] (by simp [hF]) (by simp [covers, mpre]) ?_
  simp [hF, retK, dL]

/- (*cabochon/lineage.Lineage).Is -/
theorem Is_no {L : List Th} (hl : L.length ≤ 1000) (t u : Int) (hv : val L t = false) : Meets Try.prog 28 [dL L] (.cons (.ptr 0 [.d]) (.cons (avInt t) (.cons (avInt u) .nil)))
    fun av X κ => av = avTwo (avBool false) 1 ∧ X = [dL L] ∧ κ = [] := by
  refine Meets.of_vs tabOk Try.func28 (body := ?_) ?_ (by kernel_rfl) Try.ntmps28 (rs := [.tmp 6, .tmp 7]) (by kernel_rfl) rfl (by simp [AV.len]) (by simp only [envOf]; exact rfl) ?_
  rotate_left
  · rfl
  intro w0 I0 F0 hF
  repeat first
    | refine VS.seq ?_
    | (refine VS.keepAt 0 [0, 1, 2] ?_; generalize hK : VS _ _ _ = KK; (try simp); (try subst hK); refine VS.region tabOk (id := 0) [] (by kernel_rfl) ?_; generalize hK : VS _ _ _ = KK; simp (maxSteps := 1000000) [hF]; (try subst hK); try (refine VS.keep [0, 1, 2] ?_; generalize hK : VS _ _ _ = KK; simp; (try subst hK)))
    | (refine VS.keepAt 1 [0, 1, 2] ?_; generalize hK : VS _ _ _ = KK; (try simp); (try subst hK); refine VS.region tabOk (id := 1) [(4, 14)] (by kernel_rfl) ?_; generalize hK : VS _ _ _ = KK; simp (maxSteps := 1000000) [hF]; (try subst hK); try (refine VS.keep [0, 1, 2, 19] ?_; generalize hK : VS _ _ _ = KK; simp; (try subst hK)))
  refine (is_ok L hl t).call [(0, [])] (by simp) (by simp (maxSteps := 1000000) [hF, dL, hv]) (by simp (maxSteps := 1000000) [hF, dL, hv]) (by simp (maxSteps := 1000000) [hF, dL, hv]) (by simp) ?_
  rintro av X κ ⟨rfl, rfl, rfl⟩
  generalize hK : VS _ _ _ = KK; simp (maxSteps := 1000000) [hF, dL, hv]; (try subst hK)
  repeat first
    | refine VS.seq ?_
    | (refine VS.keepAt 2 [] ?_; generalize hK : VS _ _ _ = KK; (try simp); (try subst hK); refine VS.region tabOk (id := 2) [] (by kernel_rfl) ?_; generalize hK : VS _ _ _ = KK; simp (maxSteps := 1000000) [hF]; (try subst hK); try (refine VS.keep [6, 7] ?_; generalize hK : VS _ _ _ = KK; simp; (try subst hK)))
    | (refine VS.cond ?_; generalize hK1 : VS _ _ _ = KK1; generalize hK2 : VS _ _ _ = KK2; simp (maxSteps := 1000000) [hF]; (try subst hK1); (try subst hK2))
  try refine VS.ret ?_
  repeat first | refine blockN_ret ?_ | refine loopN_ret ?_
  refine endK.of [6, 7] [0] [] (by simp [hF]) (by simp [covers, mpre]) ?_
  simp [hF, retK, dL]

theorem reach_mono {L L' : List Th} (h : ∀ (t : Nat) (x : Th), L[t]? = some x → ∃ x', L'[t]? = some x' ∧ ∀ u, edge x u → edge x' u) {t v : Int} (r : Reach L t v) : Reach L' t v := by
  induction r with
  | refl t => exact .refl t
  | step hx he _ ih =>
    obtain ⟨x', h1, h2⟩ := h _ _ hx
    exact .step h1 (h2 _ he) ih
theorem reach_trans {L : List Th} {t u v : Int} (r : Reach L t u) (s : Reach L u v) : Reach L t v := by
  induction r with
  | refl t => exact s
  | step hx he _ ih => exact .step hx he (ih s)
/-- What is included later stands in the order of all that have the module. -/
theorem live_in {L : List Th} (W : WFL L) {a : Nat} {m : Int} (ha : a < L.length) (W2 : WFL (withI L a (m :: (thAt L a).ins))) {k : Nat} (hk : k < L.length) (h : (a : Int) ∈ ordL L k) :
    m ∈ ordL (withI L a (m :: (thAt L a).ins)) k := by
  have hl : (withI L a (m :: (thAt L a).ins)).length = L.length := by rw [withI_eq ha]; simp
  have hr := (mem_reach W hk _).1 h
  rw [mem_reach W2 (by omega)]
  have hth := thAt_eq ha
  rw [hth] at *
  rw [withI_eq ha] at *
  have hself : (L.set a { L[a] with ins := m :: L[a].ins })[a]? = some { L[a] with ins := m :: L[a].ins } := List.getElem?_set_self ha
  refine reach_trans (reach_mono (fun t x hx => ?_) hr) (.step hself (.inr (by simp [parents])) (.refl m))
  by_cases e : a = t
  · subst e
    rw [List.getElem?_eq_getElem ha] at hx; cases hx
    refine ⟨_, hself, fun u hu => ?_⟩
    rcases hu with hu | hu
    · exact .inl hu
    · refine .inr ?_
      simp only [parents, List.cons_append, List.mem_cons] at hu ⊢
      exact .inr hu
  · exact ⟨x, by rw [List.getElem?_set_ne e]; exact hx, fun _ h => h⟩
theorem belowTo_mem {L : List Th} {a : Int} {n i : Nat} (h : i < (belowTo L a n).length) : ∃ k : Nat, (belowTo L a n)[i] = k ∧ k < n ∧ a ∈ ordL L k := by
  have hm := List.getElem_mem h
  have : ∀ v ∈ belowTo L a n, ∃ k : Nat, v = k ∧ k < n ∧ a ∈ ordL L k := fun v hv => by
    unfold belowTo at hv
    simp only [List.mem_map, List.mem_filter, List.mem_range] at hv
    obtain ⟨k, ⟨h1, h2⟩, rfl⟩ := hv
    exact ⟨k, rfl, h1, hasN_iff.1 h2⟩
  exact this _ hm
end Go.Proofs.Ytahgopdamgagkaa

/- Lists within lists. -/
namespace Go.Proofs.Ytahgopdamgagkaa
set_option linter.all false
open Go.Vc Go.Proofs
set_option linter.unusedSimpArgs false
set_option linter.unusedVariables false
set_option maxRecDepth 100000
set_option maxHeartbeats 4000000
attribute [local irreducible] CallW EqK

/-- The last place of a number among the first ones. -/
def lastTo (l : List Int) (v : Int) : Nat → Int
  | 0 => -1
  | n + 1 => if l[n]? = some v then (n : Int) else lastTo l v n
theorem lastTo_lt (l : List Int) (v : Int) : ∀ n : Nat, lastTo l v n < n ∧ -1 ≤ lastTo l v n
  | 0 => by simp [lastTo]
  | n + 1 => by
    have := lastTo_lt l v n
    unfold lastTo
    split <;> omega
theorem lastTo_at {l : List Int} {v : Int} : ∀ {n : Nat}, 0 ≤ lastTo l v n → l[(lastTo l v n).toNat]? = some v
  | 0, h => by simp [lastTo] at h
  | n + 1, h => by
    unfold lastTo at h ⊢
    split
    · rename_i hv; simpa using hv
    · rename_i hv; rw [if_neg hv] at h; exact lastTo_at h
def lastOf (l : List Int) (v : Int) : Int := lastTo l v l.length
/-- Whether the things of a list that are in another one stand there in the same order. -/
def withinF (all : List Int) : List Int → Int → Bool
  | [], _ => true
  | v :: l, at_ => if lastOf all v < 0 then withinF all l at_ else if lastOf all v < at_ then false else withinF all l (lastOf all v)
theorem two_orders : ∀ (B : List Int) (x y : Int), B.Nodup → [x, y].Sublist B → ¬ [y, x].Sublist B
  | [], _, _, _, h => by cases h
  | b :: B, x, y, hn, h => by
    obtain ⟨hb, hn'⟩ := List.nodup_cons.1 hn
    intro h2
    rcases List.sublist_cons_iff.1 h with k | ⟨r, hr, k⟩
    · rcases List.sublist_cons_iff.1 h2 with k2 | ⟨r2, hr2, k2⟩
      · exact two_orders B x y hn' k k2
      · injection hr2 with e1 e2
        subst e1
        exact hb (k.subset (by simp))
    · injection hr with e1 e2
      subst e1; subst e2
      have hy : y ∈ B := k.subset (by simp)
      rcases List.sublist_cons_iff.1 h2 with k2 | ⟨r2, hr2, k2⟩
      · exact hb (k2.subset (by simp))
      · injection hr2 with e1 e2
        subst e1
        exact hb hy
theorem pair_sub {l : List Int} {i j : Nat} (h : j < l.length) (hij : i < j) {x y : Int} (hx : l[i]? = some x) (hy : l[j]? = some y) : [x, y].Sublist l := by
  have h1 : [x].Sublist (l.take j) := by
    rw [List.singleton_sublist]
    refine List.mem_iff_getElem?.2 ⟨i, ?_⟩
    rw [List.getElem?_take_of_lt hij]; exact hx
  have h2 : [y].Sublist (l.drop j) := by
    rw [List.singleton_sublist]
    refine List.mem_iff_getElem?.2 ⟨0, ?_⟩
    rw [List.getElem?_drop]; exact hy
  have := h1.append h2
  rwa [List.take_append_drop] at this
theorem within_rec {all B : List Int} (hn : B.Nodup) (h2 : all.Sublist B) : ∀ (l : List Int) (pre : List Int) (a : Int), (pre ++ l).Sublist B → (a = -1 ∨ 0 ≤ a ∧ ∃ v ∈ pre, all[a.toNat]? = some v) → withinF all l a = true
  | [], _, _, _, _ => rfl
  | v :: l, pre, a, h, ha => by
    have hnext : (pre ++ [v] ++ l).Sublist B := by simpa using h
    unfold withinF
    split
    · refine within_rec hn h2 l (pre ++ [v]) a hnext ?_
      rcases ha with ha | ⟨h0, w, hw, he⟩
      · exact .inl ha
      · exact .inr ⟨h0, w, by simp [hw], he⟩
    · rename_i hp
      have hlast := lastTo_at (l := all) (v := v) (n := all.length) (by unfold lastOf at hp; omega)
      split
      · rename_i hlt
        exfalso
        rcases ha with ha | ⟨h0, w, hw, he⟩
        · omega
        · have hal : a.toNat < all.length := (List.getElem?_eq_some_iff.1 he).1
          have s1 : [v, w].Sublist B := (pair_sub (i := (lastOf all v).toNat) hal (by omega) hlast he).trans h2
          have s2 : [w, v].Sublist B := by
            have h1 : [w].Sublist pre := List.singleton_sublist.2 hw
            have h3 : [v].Sublist (v :: l) := List.singleton_sublist.2 (by simp)
            exact (h1.append h3).trans h
          exact two_orders B v w hn s1 s2
      · exact within_rec hn h2 l (pre ++ [v]) _ hnext (.inr ⟨by omega, v, by simp, hlast⟩)
theorem within_of {part all B : List Int} (hn : B.Nodup) (h1 : part.Sublist B) (h2 : all.Sublist B) : withinF all part (-1) = true :=
  within_rec hn h2 part [] (-1) (by simpa using h1) (.inl rfl)

theorem behindOf_split {f r : List Int} {c : Int} (h : c ∉ f) : behindOf (f ++ [c] ++ r) c = r := by
  have hi : f.length < (f ++ [c] ++ r).length := by simp
  have hat : (f ++ [c] ++ r)[f.length]'hi = c := by simp
  rw [behindOf_at hi hat fun j hj e => ?_]
  · rw [List.append_assoc, List.drop_append]
    simp
  · have : (f ++ [c] ++ r)[j]'(by omega) = f[j] := by
      rw [List.getElem_append_left (by simp; omega), List.getElem_append_left hj]
    rw [this] at e
    exact h (e ▸ List.getElem_mem hj)
section
variable {L : List Th} (W : WFL L)
include W
/-- How an order falls apart. -/
theorem ord_split {t : Nat} {x : Th} (hx : L[t]? = some x) : ∃ front behind : List Int, ordL L t = front ++ [(t : Int)] ++ (behind.filter fun v => !hasN front v) ∧ (t : Int) ∉ front ∧ behind.Nodup ∧
    (∀ u ∈ x.bef, (ordL L u).Sublist front) ∧ (∀ u ∈ parents x, (ordL L u).Sublist behind) := by
  obtain ⟨r, B⟩ := W.base
  obtain ⟨front, behind, hf, hb, ho⟩ := parts W hx
  obtain ⟨f1, f2, f3, f4⟩ := merged_of W hf (B.nb _ _ hx) (fun u hu => edge_val W hx (.inl hu))
  obtain ⟨b1, b2, b3, b4⟩ := merged_of W hb (B.np _ _ hx) (fun u hu => edge_val W hx (.inr hu))
  have hnd := (ordL_spec W (List.getElem?_eq_some_iff.1 hx).1).1
  rw [ho, List.append_assoc, List.nodup_append] at hnd
  exact ⟨front, behind, ho, fun hm => hnd.2.2 _ hm _ (by simp) rfl, b1, f3, b3⟩
theorem keeps_sup {t : Nat} {x : Th} (hx : L[t]? = some x) (h0 : 0 ≤ x.sup) : withinF (ordL L x.sup) (behindOf (ordL L t) t) (-1) = true := by
  obtain ⟨front, behind, ho, hnf, hn, hb, hp⟩ := ord_split W hx
  rw [ho, behindOf_split hnf]
  exact within_of hn List.filter_sublist (hp x.sup (by simp [parents, h0]))
theorem keeps_in {t : Nat} {x : Th} (hx : L[t]? = some x) {m : Int} (hm : m ∈ x.ins) : ∀ v ∈ ordL L m, v ∈ ordL L t := fun v hv =>
  (mem_ordL W hx v).2 (.inr ⟨m, .inr (by simp [parents, hm]), hv⟩)
theorem keeps_bef {t : Nat} {x : Th} (hx : L[t]? = some x) {m : Int} (hm : m ∈ x.bef) : withinF (ordL L t) (ordL L m) (-1) = true ∧
    ∃ f : Nat, (f : Int) = (ordL L t).length - (behindOf (ordL L t) t).length - 1 ∧ f ≤ (ordL L t).length ∧ ∀ v ∈ ordL L m, v ∈ ordL L t ∧ v ∈ (ordL L t).take f := by
  obtain ⟨front, behind, ho, hnf, hn, hb, hp⟩ := ord_split W hx
  have hnd := (ordL_spec W (List.getElem?_eq_some_iff.1 hx).1).1
  have hs : (ordL L m).Sublist (ordL L t) := by
    rw [ho, List.append_assoc]
    exact (hb m hm).trans (List.sublist_append_left _ _)
  refine ⟨within_of hnd hs (List.Sublist.refl _), front.length, ?_, ?_, fun v hv => ⟨hs.subset hv, ?_⟩⟩
  · rw [ho, behindOf_split hnf]; simp; omega
  · rw [ho]; simp
  · rw [ho, List.append_assoc, List.take_left']
    · exact (hb m hm).subset hv
    · rfl
theorem front_ex {t : Nat} (ht : t < L.length) : ∃ f : Nat, (f : Int) = (ordL L t).length - (behindOf (ordL L t) t).length - 1 ∧ f ≤ (ordL L t).length := by
  obtain ⟨front, behind, ho, hnf, hn, hb, hp⟩ := ord_split W (List.getElem?_eq_getElem ht)
  refine ⟨front.length, ?_, ?_⟩
  · rw [ho, behindOf_split hnf]; simp; omega
  · rw [ho]; simp
end

theorem withinF_step {all part : List Int} {i : Nat} (h : i < part.length) (a : Int) : withinF all (part.drop i) a = (if lastOf all part[i] < 0 then withinF all (part.drop (i + 1)) a else if lastOf all part[i] < a then false else withinF all (part.drop (i + 1)) (lastOf all part[i])) := by
  rw [List.drop_eq_getElem_cons h]; rfl

/- cabochon/cabochonlaw18.within -/
theorem within_ok (e1 e2 : Bool) (part all : List Int) (hp : part.length ≤ 1000000) (hl : all.length ≤ 1000000) : Meets Try.prog 21 [] (.cons (.imm 1 (dInts part) e1) (.cons (.imm 1 (dInts all) e2) .nil))
    fun av X κ => av = avBool (withinF all part (-1)) ∧ X = [] ∧ κ = [] := by
  refine Meets.of_vs tabOk Try.func21 (body := ?_) ?_ (by kernel_rfl) Try.ntmps21 (rs := [.tmp 4]) (by kernel_rfl) rfl (by simp [AV.len]) (by simp only [envOf]; exact rfl) ?_
  rotate_left
  · rfl
  intro w0 I0 F0 hF
  repeat first
    | refine VS.seq ?_
    | refine VS.block ?_
    | (refine VS.keepAt 0 [0, 1] ?_; generalize hK : VS _ _ _ = KK; (try simp); (try subst hK); refine VS.region tabOk (id := 0) [] (by kernel_rfl) ?_; generalize hK : VS _ _ _ = KK; simp (maxSteps := 1000000) [hF]; (try subst hK); try (refine VS.keep [0, 1] ?_; generalize hK : VS _ _ _ = KK; simp; (try subst hK)))
    | (refine VS.keepAt 1 [0, 1] ?_; generalize hK : VS _ _ _ = KK; (try simp); (try subst hK); refine VS.region tabOk (id := 1) [] (by kernel_rfl) ?_; generalize hK : VS _ _ _ = KK; simp (maxSteps := 1000000) [hF]; (try subst hK); try (refine VS.keep [0, 1, 5] ?_; generalize hK : VS _ _ _ = KK; simp; (try subst hK)))
    | (refine VS.keepAt 2 [0, 1, 5] ?_; generalize hK : VS _ _ _ = KK; (try simp); (try subst hK); refine VS.region tabOk (id := 2) [] (by kernel_rfl) ?_; generalize hK : VS _ _ _ = KK; simp (maxSteps := 1000000) [hF]; (try subst hK); try (refine VS.keep [0, 1, 5, 6] ?_; generalize hK : VS _ _ _ = KK; simp; (try subst hK)))
  refine VS.rounds (fun n st => ∃ (i : Nat) (a : Int), i + n = part.length ∧ (-1 ≤ a ∧ a < 1000000) ∧ withinF all (part.drop i) a = withinF all part (-1) ∧ st = ⟨[(0, .imm 1 (dInts part) e1), (1, .imm 1 (dInts all) e2), (5, avInt a), (6, avInt i)], [], [], []⟩) ⟨part.length, 0, -1, by omega, by omega, by simp, by simp⟩ ?_
  rintro n st ⟨i, a, hi, ha, heq, rfl⟩
  repeat first
    | refine VS.seq ?_
    | (refine VS.keepAt 3 [0, 1, 5, 6] ?_; generalize hK : VS _ _ _ = KK; (try simp); (try subst hK); refine VS.region tabOk (id := 3) [] (by kernel_rfl) ?_; generalize hK : VS _ _ _ = KK; simp (maxSteps := 1000000) [hF]; (try subst hK); try (refine VS.keep [0, 1, 5, 6, 12] ?_; generalize hK : VS _ _ _ = KK; simp; (try subst hK)))
    | (refine VS.cond ?_; generalize hK1 : VS _ _ _ = KK1; generalize hK2 : VS _ _ _ = KK2; simp (maxSteps := 1000000) [hF]; (try subst hK1); (try subst hK2))
  refine ⟨fun hlt => ?_, fun hge => ?_⟩
  · have hil : i < part.length := by omega
    have hn := dInts_nth hil
    have hst := withinF_step (all := all) hil a
    rw [heq] at hst
    repeat first
      | refine VS.seq ?_
      | refine VS.skip ?_
      | refine VS.block ?_
      | (refine VS.keepAt 5 [0, 1, 5, 6] ?_; generalize hK : VS _ _ _ = KK; (try simp); (try subst hK); refine VS.region tabOk (id := 5) [] (by kernel_rfl) ?_; generalize hK : VS _ _ _ = KK; simp (maxSteps := 1000000) [hF]; (try subst hK); try (refine VS.keep [0, 1, 5, 6, 7] ?_; generalize hK : VS _ _ _ = KK; simp; (try subst hK)))
      | (refine VS.keepAt 6 [0, 1, 5, 6, 7] ?_; generalize hK : VS _ _ _ = KK; (try simp); (try subst hK); refine VS.region tabOk (id := 6) [] (by kernel_rfl) ?_; generalize hK : VS _ _ _ = KK; simp (maxSteps := 1000000) [hF]; (try subst hK); try (refine VS.keep [0, 1, 5, 6, 7, 8] ?_; generalize hK : VS _ _ _ = KK; simp; (try subst hK)))
    refine VS.rounds (fun m st => ∃ (k : Nat), k + m = all.length ∧ st = ⟨[(0, .imm 1 (dInts part) e1), (1, .imm 1 (dInts all) e2), (5, avInt a), (6, avInt i), (7, avInt (lastTo all part[i] k)), (8, avInt k)], [], [], []⟩) ⟨all.length, 0, by omega, by simp [lastTo]⟩ ?_
    rintro m st ⟨k, hk, rfl⟩
    have hlk := lastTo_lt all part[i] k
    repeat first
      | refine VS.seq ?_
      | (refine VS.keepAt 7 [0, 1, 5, 6, 7, 8] ?_; generalize hK : VS _ _ _ = KK; (try simp); (try subst hK); refine VS.region tabOk (id := 7) [] (by kernel_rfl) ?_; generalize hK : VS _ _ _ = KK; simp (maxSteps := 1000000) [hF]; (try subst hK); try (refine VS.keep [0, 1, 5, 6, 7, 8, 18] ?_; generalize hK : VS _ _ _ = KK; simp; (try subst hK)))
      | (refine VS.cond ?_; generalize hK1 : VS _ _ _ = KK1; generalize hK2 : VS _ _ _ = KK2; simp (maxSteps := 1000000) [hF]; (try subst hK1); (try subst hK2))
    refine ⟨fun hlt2 => ?_, fun hge2 => ?_⟩
    · have hkl : k < all.length := by omega
      have hn2 := dInts_nth hkl
      have hstep : lastTo all part[i] (k + 1) = if all[k] = part[i] then (k : Int) else lastTo all part[i] k := by
        rw [lastTo, List.getElem?_eq_getElem hkl]; simp
      repeat first
        | refine VS.seq ?_
        | refine VS.skip ?_
        | refine VS.block ?_
        | (refine VS.keepAt 9 [0, 1, 5, 6, 7, 8] ?_; generalize hK : VS _ _ _ = KK; (try simp); (try subst hK); refine VS.drawn tabOk mixedOk (id := 9) [] [⟨0, 2, 2097152, 5⟩, ⟨0, 256, 4194304, 5⟩, ⟨3, 6291456, 8388608, 5⟩, ⟨4, 8388608, 16777216, 6⟩, ⟨0, 1, 33554432, 5⟩, ⟨0, 64, 67108864, 5⟩, ⟨48, 100663296, 134217728, 5⟩, ⟨64, 134217728, 268435456, 6⟩, ⟨136, 285212672, 536870912, 5⟩] (.take 0 (.take 1 (.take 2 (.take 3 (.take 4 (.take 5 (.take 6 (.take 7 (.take 8 (.done)))))))))) (.run [0, 1, 2, 3, 4, 5, 6, 7, 8] (.done)) (by kernel_rfl) (by kernel_rfl) (by kernel_rfl) ?_; generalize hK : VS _ _ _ = KK; simp only [opsVc_run, opsVc_both, opsVc_chk, opsVc_done, opsVc_yes, pick_cons, pick_nil, List.getElem?_cons_zero, List.getElem?_cons_succ]; simp (maxSteps := 1000000) [hF, hn, hn2, hil, hkl]; (try subst hK); try (refine VS.keep [0, 1, 5, 6, 7, 8, 29] ?_; generalize hK : VS _ _ _ = KK; simp; (try subst hK)))
        | (refine VS.cond ?_; generalize hK1 : VS _ _ _ = KK1; generalize hK2 : VS _ _ _ = KK2; simp (maxSteps := 1000000) [hF, hn, hn2, hil, hkl]; (try subst hK1); (try subst hK2))
      refine ⟨fun he => ?_, fun he => ?_⟩
      · rw [if_pos he] at hstep
        repeat first
          | refine VS.nil ?_
          | refine blockN_normal ?_
          | refine loopN_normal ?_
          | (refine VS.keepAt 8 [0, 1, 5, 6, 7, 8] ?_; generalize hK : VS _ _ _ = KK; (try simp); (try subst hK); refine VS.region tabOk (id := 8) [] (by kernel_rfl) ?_; generalize hK : VS _ _ _ = KK; simp (maxSteps := 1000000) [hF]; (try subst hK); try (refine VS.keep [0, 1, 5, 6, 7, 8] ?_; generalize hK : VS _ _ _ = KK; simp; (try subst hK)))
          | (refine VS.keepAt 10 [0, 1, 5, 6, 8] ?_; generalize hK : VS _ _ _ = KK; (try simp); (try subst hK); refine VS.region tabOk (id := 10) [] (by kernel_rfl) ?_; generalize hK : VS _ _ _ = KK; simp (maxSteps := 1000000) [hF]; (try subst hK); try (refine VS.keep [0, 1, 5, 6, 7, 8] ?_; generalize hK : VS _ _ _ = KK; simp; (try subst hK)))
        refine nextK.of [0, 1, 5, 6, 7, 8] [] (m - 1) (by omega) (by simp [hF]) ?_
        refine ⟨k + 1, by omega, ?_⟩
        simp [hstep]
        exact IntWalk.i64_in _ (by omega)
      · rw [if_neg he] at hstep
        repeat first
          | refine VS.skip ?_
          | refine VS.nil ?_
          | refine blockN_normal ?_
          | refine loopN_normal ?_
          | (refine VS.keepAt 8 [0, 1, 5, 6, 7, 8] ?_; generalize hK : VS _ _ _ = KK; (try simp); (try subst hK); refine VS.region tabOk (id := 8) [] (by kernel_rfl) ?_; generalize hK : VS _ _ _ = KK; simp (maxSteps := 1000000) [hF]; (try subst hK); try (refine VS.keep [0, 1, 5, 6, 7, 8] ?_; generalize hK : VS _ _ _ = KK; simp; (try subst hK)))
        refine nextK.of [0, 1, 5, 6, 7, 8] [] (m - 1) (by omega) (by simp [hF]) ?_
        refine ⟨k + 1, by omega, ?_⟩
        simp [hstep]
        exact IntWalk.i64_in _ (by omega)
    · obtain rfl : k = all.length := by omega
      have hlo : lastTo all part[i] all.length = lastOf all part[i] := rfl
      rw [hlo] at hlk ⊢
      generalize lastOf all part[i] = p at *
      repeat first
        | refine VS.seq ?_
        | refine VS.exit ?_
        | (refine VS.keepAt 11 [0, 1, 5, 6, 7] ?_; generalize hK : VS _ _ _ = KK; (try simp); (try subst hK); refine VS.region tabOk (id := 11) [] (by kernel_rfl) ?_; generalize hK : VS _ _ _ = KK; simp (maxSteps := 1000000) [hF]; (try subst hK); try (refine VS.keep [0, 1, 5, 6, 7, 32] ?_; generalize hK : VS _ _ _ = KK; simp; (try subst hK)))
        | (refine VS.cond ?_; generalize hK1 : VS _ _ _ = KK1; generalize hK2 : VS _ _ _ = KK2; simp (maxSteps := 1000000) [hF]; (try subst hK1); (try subst hK2))
      refine ⟨fun h0 => ?_, fun h0 => ?_⟩
      · rw [if_pos h0] at hst
        repeat first
          | refine VS.nil ?_
          | refine loopN_normal ?_
          | refine VS.exit ?_
          | refine blockN_hit ?_
          | (refine VS.keepAt 4 [0, 1, 5, 6] ?_; generalize hK : VS _ _ _ = KK; (try simp); (try subst hK); refine VS.region tabOk (id := 4) [] (by kernel_rfl) ?_; generalize hK : VS _ _ _ = KK; simp (maxSteps := 1000000) [hF]; (try subst hK); try (refine VS.keep [0, 1, 5, 6] ?_; generalize hK : VS _ _ _ = KK; simp; (try subst hK)))
        refine nextK.of [0, 1, 5, 6] [] (n - 1) (by omega) (by simp [hF]) ?_
        refine ⟨i + 1, a, by omega, by omega, hst.symm, ?_⟩
        simp
        exact IntWalk.i64_in _ (by omega)
      · rw [if_neg (by omega)] at hst
        repeat first
          | refine VS.seq ?_
          | refine VS.skip ?_
          | (refine VS.keepAt 12 [0, 1, 5, 6, 7] ?_; generalize hK : VS _ _ _ = KK; (try simp); (try subst hK); refine VS.region tabOk (id := 12) [] (by kernel_rfl) ?_; generalize hK : VS _ _ _ = KK; simp (maxSteps := 1000000) [hF]; (try subst hK); try (refine VS.keep [0, 1, 6, 7, 35] ?_; generalize hK : VS _ _ _ = KK; simp; (try subst hK)))
          | (refine VS.cond ?_; generalize hK1 : VS _ _ _ = KK1; generalize hK2 : VS _ _ _ = KK2; simp (maxSteps := 1000000) [hF]; (try subst hK1); (try subst hK2))
        refine ⟨fun h1 => ?_, fun h1 => ?_⟩
        · rw [if_pos h1] at hst
          repeat first
            | refine VS.seq ?_
            | (refine VS.keepAt 13 [] ?_; generalize hK : VS _ _ _ = KK; (try simp); (try subst hK); refine VS.region tabOk (id := 13) [] (by kernel_rfl) ?_; generalize hK : VS _ _ _ = KK; simp (maxSteps := 1000000) [hF]; (try subst hK); try (refine VS.keep [4] ?_; generalize hK : VS _ _ _ = KK; simp; (try subst hK)))
          try refine VS.ret ?_
          repeat first | refine blockN_ret ?_ | refine loopN_ret ?_
          refine endK.of [4] [] [] (by simp [hF]) (by simp [covers, mpre]) ?_
          simp [hF, retK, hst]
        · rw [if_neg (by omega)] at hst
          repeat first
            | refine VS.skip ?_
            | refine VS.nil ?_
            | refine blockN_normal ?_
            | refine loopN_normal ?_
            | (refine VS.keepAt 4 [0, 1, 5, 6] ?_; generalize hK : VS _ _ _ = KK; (try simp); (try subst hK); refine VS.region tabOk (id := 4) [] (by kernel_rfl) ?_; generalize hK : VS _ _ _ = KK; simp (maxSteps := 1000000) [hF]; (try subst hK); try (refine VS.keep [0, 1, 5, 6] ?_; generalize hK : VS _ _ _ = KK; simp; (try subst hK)))
            | (refine VS.keepAt 14 [0, 1, 6, 7] ?_; generalize hK : VS _ _ _ = KK; (try simp); (try subst hK); refine VS.region tabOk (id := 14) [] (by kernel_rfl) ?_; generalize hK : VS _ _ _ = KK; simp (maxSteps := 1000000) [hF]; (try subst hK); try (refine VS.keep [0, 1, 5, 6] ?_; generalize hK : VS _ _ _ = KK; simp; (try subst hK)))
          refine nextK.of [0, 1, 5, 6] [] (n - 1) (by omega) (by simp [hF]) ?_
          refine ⟨i + 1, p, by omega, by omega, hst.symm, ?_⟩
          simp
          exact IntWalk.i64_in _ (by omega)
  · obtain rfl : i = part.length := by omega
    have hst : withinF all part (-1) = true := by rw [← heq]; simp [withinF]
    repeat first
      | refine VS.seq ?_
      | refine VS.exit ?_
      | (refine VS.keepAt 15 [] ?_; generalize hK : VS _ _ _ = KK; (try simp); (try subst hK); refine VS.region tabOk (id := 15) [] (by kernel_rfl) ?_; generalize hK : VS _ _ _ = KK; simp (maxSteps := 1000000) [hF]; (try subst hK); try (refine VS.keep [4] ?_; generalize hK : VS _ _ _ = KK; simp; (try subst hK)))
    try refine VS.ret ?_
    repeat first | refine blockN_ret ?_ | refine loopN_ret ?_
    refine endK.of [4] [] [] (by simp [hF]) (by simp [covers, mpre]) ?_
    simp [hF, retK, hst]
end Go.Proofs.Ytahgopdamgagkaa

/- LineageKeeps: what is included or prepended keeps its own order. -/
namespace Go.Proofs.Ytahgopdamgagkaa
set_option linter.all false
open Go.Vc Go.Proofs
set_option linter.unusedSimpArgs false
set_option linter.unusedVariables false
set_option maxRecDepth 100000
set_option maxHeartbeats 4000000
attribute [local irreducible] CallW EqK

theorem behindOf_len (l : List Int) (c : Int) : (behindOf l c).length ≤ l.length := by
  induction l with
  | nil => simp [behindOf]
  | cons x l ih => unfold behindOf; split <;> simp <;> omega
/-- What is known when the put is done. -/
structure Kept (L : List Th) (a b : Nat) (before : Bool) : Prop where
  ok : OK L
  ha : a < L.length
  hb : b < L.length
  w : before = true → withinF (ordL L a) (ordL L b) (-1) = true
  m : ∀ v ∈ ordL L b, v ∈ ordL L a
  f : ∀ f : Nat, (f : Int) = (ordL L a).length - (behindOf (ordL L a) a).length - 1 → before = true → ∀ v ∈ ordL L b, v ∈ (ordL L a).take f
theorem kept_I {L : List Th} {a b : Nat} (ha : a < L.length) (hb : b < L.length) (h : OK (withI L a (b :: (thAt L a).ins))) : Kept (withI L a (b :: (thAt L a).ins)) a b false := by
  rw [withI_eq ha] at *
  have hx := List.getElem?_set_self (a := { L[a] with ins := (b : Int) :: (thAt L a).ins }) ha
  exact ⟨h, by simpa using ha, by simpa using hb, (fun e => by cases e), keeps_in h.wf hx (by simp), fun f _ e => by cases e⟩
theorem kept_P {L : List Th} {a b : Nat} (ha : a < L.length) (hb : b < L.length) (h : OK (withP L a (b :: (thAt L a).bef))) : Kept (withP L a (b :: (thAt L a).bef)) a b true := by
  rw [withP_eq ha] at *
  have hx := List.getElem?_set_self (a := { L[a] with bef := (b : Int) :: (thAt L a).bef }) ha
  obtain ⟨h1, f, h2, h3, h4⟩ := keeps_bef h.wf hx (m := b) (by simp)
  exact ⟨h, by simpa using ha, by simpa using hb, (fun _ => h1), (fun v hv => (h4 v hv).1), fun g hg _ v hv => by
    obtain rfl : g = f := by omega
    exact (h4 v hv).2⟩

/- cabochon/cabochonlaw18.LineageKeeps -/
theorem keeps_ok (ex : Bool) (l : List Deed) (x y : Int) : Meets Try.prog 5 [] (.cons (.imm 3 (dDeeds l) ex) (.cons (avInt x) (.cons (avInt y) .nil))) fun av X κ => av = .val (.bool true) := by
  obtain ⟨hok, hpos⟩ := playedOf_OK l
  have hl := hok.len
  obtain ⟨a, ha, a1, a2, a3⟩ := part_nat x
  obtain ⟨b, hb, b1, b2, b3⟩ := part_nat y
  have w14 := w14
  have w2 : IntKind.u64.wrap 2 = 2 := by decide
  have w1 : IntKind.u64.wrap 1 = 1 := by decide
  refine Meets.of_vs tabOk Try.func5 (body := ?_) ?_ (by kernel_rfl) Try.ntmps5 (rs := [.tmp 6]) (by kernel_rfl) rfl (by simp [AV.len]) (by simp only [envOf]; exact rfl) ?_
  rotate_left
  · rfl
  intro w0 I0 F0 hF
  repeat first
    | refine VS.seq ?_
    | (refine VS.keepAt 0 [0, 1, 2] ?_; generalize hK : VS _ _ _ = KK; (try simp); (try subst hK); refine VS.region tabOk (id := 0) [] (by kernel_rfl) ?_; generalize hK : VS _ _ _ = KK; simp (maxSteps := 1000000) [hF]; (try subst hK); try (refine VS.keep [0, 1, 2] ?_; generalize hK : VS _ _ _ = KK; simp; (try subst hK)))
    | (refine VS.keepAt 1 [0, 1, 2] ?_; generalize hK : VS _ _ _ = KK; (try simp); (try subst hK); refine VS.region tabOk (id := 1) [] (by kernel_rfl) ?_; generalize hK : VS _ _ _ = KK; simp (maxSteps := 1000000) [hF]; (try subst hK); try (refine VS.keep [1, 2, 7] ?_; generalize hK : VS _ _ _ = KK; simp; (try subst hK)))
  refine (played_ok ex l).call [] (by simp) (by simp (maxSteps := 1000000) [hF]) (by simp (maxSteps := 1000000) [hF]) (by simp (maxSteps := 1000000) [hF]) (by simp) ?_
  rintro av X κ ⟨rfl, rfl, rfl⟩
  generalize hK : VS _ _ _ = KK; simp (maxSteps := 1000000) [hF]; (try subst hK)
  generalize playedOf l = L at *
  repeat first
    | refine VS.seq ?_
    | (refine VS.keepAt 2 [1, 2, 7] ?_; generalize hK : VS _ _ _ = KK; (try simp); (try subst hK); refine VS.region tabOk (id := 2) [] (by kernel_rfl) ?_; generalize hK : VS _ _ _ = KK; simp (maxSteps := 1000000) [hF, w14, w2, w1, a1, a2, a3, b1, b2, b3]; (try subst hK); try (refine VS.keep [1, 7, 8, 9] ?_; generalize hK : VS _ _ _ = KK; simp; (try subst hK)))
    | (refine VS.keepAt 3 [1, 7, 8, 9] ?_; generalize hK : VS _ _ _ = KK; (try simp); (try subst hK); refine VS.region tabOk (id := 3) [] (by kernel_rfl) ?_; generalize hK : VS _ _ _ = KK; simp (maxSteps := 1000000) [hF, w14, w2, w1, a1, a2, a3, b1, b2, b3]; (try subst hK); try (refine VS.keep [7, 8, 9, 10] ?_; generalize hK : VS _ _ _ = KK; simp; (try subst hK)))
    | (refine VS.keepAt 4 [7, 8, 9, 10] ?_; generalize hK : VS _ _ _ = KK; (try simp); (try subst hK); refine VS.region tabOk (id := 4) [] (by kernel_rfl) ?_; generalize hK : VS _ _ _ = KK; simp (maxSteps := 1000000) [hF, w14, w2, w1, a1, a2, a3, b1, b2, b3]; (try subst hK); try (refine VS.keep [7, 8, 9, 10] ?_; generalize hK : VS _ _ _ = KK; simp; (try subst hK)))
    | (refine VS.keepAt 5 [7, 8, 9, 10] ?_; generalize hK : VS _ _ _ = KK; (try simp); (try subst hK); refine VS.region tabOk (id := 5) [] (by kernel_rfl) ?_; generalize hK : VS _ _ _ = KK; simp (maxSteps := 1000000) [hF, w14, w2, w1, a1, a2, a3, b1, b2, b3]; (try subst hK); try (refine VS.keep [7, 8, 9, 10, 40] ?_; generalize hK : VS _ _ _ = KK; simp; (try subst hK)))
    | (refine VS.cond ?_; generalize hK1 : VS _ _ _ = KK1; generalize hK2 : VS _ _ _ = KK2; simp (maxSteps := 1000000) [hF, w14, w2, w1, a1, a2, a3, b1, b2, b3]; (try subst hK1); (try subst hK2))
  refine ⟨fun hc => ?_, fun hc => ?_⟩
  · have hB : ∀ t' : Nat, (a : Int) = t' → t' < L.length → val L b = true → (thAt L b).kind = 1 → hasN (thAt L a).bef b = false → (b : Int) ≠ a → hasN (ordL L b) a = false → ∃ r, Base (withP L t' (b :: (thAt L a).bef)) r := fun t ht hl hv hk hd _ hh => by
      obtain rfl : a = t := by omega
      exact baseP hok b a hl hv hk hd hh
    repeat first
      | (refine VS.keepAt 6 [7, 8, 9, 10] ?_; generalize hK : VS _ _ _ = KK; (try simp); (try subst hK); refine VS.region tabOk (id := 6) [] (by kernel_rfl) ?_; generalize hK : VS _ _ _ = KK; simp (maxSteps := 1000000) [hF, hc]; (try subst hK); try (refine VS.keep [7, 8, 9, 10, 11] ?_; generalize hK : VS _ _ _ = KK; simp; (try subst hK)))
    rcases putP_cases hok a b with ⟨e1, e2⟩ | ⟨k, hk1, hk2, hvb, _, e, h2, hle⟩
    · refine (prepend_ok hok.wf a b hB).call [(0, [])] (by simp) (by simp (maxSteps := 1000000) [hF, dL, e1, e2]) (by simp (maxSteps := 1000000) [hF, dL, e1, e2]) (by simp (maxSteps := 1000000) [hF, dL, e1, e2]) (by simp) ?_
      rintro av X κ ⟨rfl, rfl, rfl⟩
      generalize hK : VS _ _ _ = KK; simp (maxSteps := 1000000) [hF, dL, e1, e2]; (try subst hK)
      repeat first
        | refine VS.seq ?_
        | (refine VS.keepAt 8 [7, 8, 9, 10, 11] ?_; generalize hK : VS _ _ _ = KK; (try simp); (try subst hK); refine VS.region tabOk (id := 8) [] (by kernel_rfl) ?_; generalize hK : VS _ _ _ = KK; simp (maxSteps := 1000000) [hF, e2]; (try subst hK); try (refine VS.keep [7, 8, 9, 10, 50] ?_; generalize hK : VS _ _ _ = KK; simp; (try subst hK)))
        | (refine VS.keepAt 9 [] ?_; generalize hK : VS _ _ _ = KK; (try simp); (try subst hK); refine VS.region tabOk (id := 9) [] (by kernel_rfl) ?_; generalize hK : VS _ _ _ = KK; simp (maxSteps := 1000000) [hF, e2]; (try subst hK); try (refine VS.keep [6] ?_; generalize hK : VS _ _ _ = KK; simp; (try subst hK)))
        | (refine VS.cond ?_; generalize hK1 : VS _ _ _ = KK1; generalize hK2 : VS _ _ _ = KK2; simp (maxSteps := 1000000) [hF, e2]; (try subst hK1); (try subst hK2))
      refine (sane_ok).call [] (by simp) (by simp (maxSteps := 1000000) [hF]) (by simp (maxSteps := 1000000) [hF]) (by simp (maxSteps := 1000000) [hF]) (by simp) ?_
      rintro av X κ ⟨rfl, rfl, rfl⟩
      generalize hK : VS _ _ _ = KK; simp (maxSteps := 1000000) [hF]; (try subst hK)
      try refine VS.ret ?_
      repeat first | refine blockN_ret ?_ | refine loopN_ret ?_
      refine endK.of [6] [] [] (by simp [hF]) (by simp [covers, mpre]) ?_
      simp [hF, retK]
    · obtain rfl : a = k := by omega
      obtain ⟨b', hbb, hbl'⟩ := val_nat hvb
      have hbl2 : b < L.length := by omega
      have K := kept_P hk2 hbl2 h2
      refine (prepend_ok hok.wf a b hB).call [(0, [])] (by simp) (by simp (maxSteps := 1000000) [hF, dL, e]) (by simp (maxSteps := 1000000) [hF, dL, e]) (by simp (maxSteps := 1000000) [hF, dL, e]) (by simp) ?_
      rintro av X κ ⟨rfl, rfl, rfl⟩
      generalize hK : VS _ _ _ = KK; simp (maxSteps := 1000000) [hF, dL, e]; (try subst hK)
      generalize withP L a (↑b :: (thAt L ↑a).bef) = L2 at *
      have hl2 := K.ok.len
      have hlen : ∀ c : Nat, c < L2.length → (ordL L2 c).length ≤ 1000 := fun c hcl => K.ok.wf.base.elim fun _ B => ord_len B hcl (K.ok.wf.ord hcl)
      repeat first
        | refine VS.seq ?_
        | refine VS.skip ?_
        | refine VS.block ?_
        | (refine VS.keepAt 8 [7, 8, 9, 10, 11] ?_; generalize hK : VS _ _ _ = KK; (try simp); (try subst hK); refine VS.region tabOk (id := 8) [] (by kernel_rfl) ?_; generalize hK : VS _ _ _ = KK; simp (maxSteps := 1000000) [hF]; (try subst hK); try (refine VS.keep [7, 8, 9, 10, 50] ?_; generalize hK : VS _ _ _ = KK; simp; (try subst hK)))
        | (refine VS.keepAt 10 [7, 8, 9, 10] ?_; generalize hK : VS _ _ _ = KK; (try simp); (try subst hK); refine VS.region tabOk (id := 10) [] (by kernel_rfl) ?_; generalize hK : VS _ _ _ = KK; simp (maxSteps := 1000000) [hF]; (try subst hK); try (refine VS.keep [7, 8, 9, 10, 12] ?_; generalize hK : VS _ _ _ = KK; simp; (try subst hK)))
        | (refine VS.cond ?_; generalize hK1 : VS _ _ _ = KK1; generalize hK2 : VS _ _ _ = KK2; simp (maxSteps := 1000000) [hF]; (try subst hK1); (try subst hK2))
      refine VS.pick [7, 8, 9, 10, 12] [0] (by simp [hF]) ?_
      generalize hK : VS _ _ _ = KK; simp [hF]; (try subst hK)
      refine VS.rounds (fun n st => ∃ (c : Nat), c + n = L2.length ∧ st = ⟨[(7, .ptr 0 [.d]), (8, avInt a), (9, avInt b), (10, .val (.bool true)), (12, avInt c)], [dL L2], [], []⟩) ⟨L2.length, 0, by omega, by simp [dL]⟩ ?_
      rintro n st ⟨c, hcn, rfl⟩
      repeat first
        | refine VS.seq ?_
        | (refine VS.keepAt 11 [7, 8, 9, 10, 12] ?_; generalize hK : VS _ _ _ = KK; (try simp); (try subst hK); refine VS.region tabOk (id := 11) [] (by kernel_rfl) ?_; generalize hK : VS _ _ _ = KK; simp (maxSteps := 1000000) [hF]; (try subst hK); try (refine VS.keep [7, 8, 9, 10, 12, 55] ?_; generalize hK : VS _ _ _ = KK; simp; (try subst hK)))
      refine (len_ok L2 hl2).call [(0, [])] (by simp) (by simp (maxSteps := 1000000) [hF, dL]) (by simp (maxSteps := 1000000) [hF, dL]) (by simp (maxSteps := 1000000) [hF, dL]) (by simp) ?_
      rintro av X κ ⟨rfl, rfl, rfl⟩
      generalize hK : VS _ _ _ = KK; simp (maxSteps := 1000000) [hF, dL]; (try subst hK)
      repeat first
        | (refine VS.cond ?_; generalize hK1 : VS _ _ _ = KK1; generalize hK2 : VS _ _ _ = KK2; simp (maxSteps := 1000000) [hF]; (try subst hK1); (try subst hK2))
      refine ⟨fun hlt => ?_, fun hge => ?_⟩
      · have hcl : c < L2.length := by omega
        have hx : L2[c]? = some L2[c] := List.getElem?_eq_getElem hcl
        have hol := hlen c hcl
        repeat first
          | refine VS.seq ?_
          | refine VS.skip ?_
          | refine VS.block ?_
          | (refine VS.keepAt 13 [7, 8, 9, 10, 12] ?_; generalize hK : VS _ _ _ = KK; (try simp); (try subst hK); refine VS.region tabOk (id := 13) [] (by kernel_rfl) ?_; generalize hK : VS _ _ _ = KK; simp (maxSteps := 1000000) [hF]; (try subst hK); try (refine VS.keep [7, 8, 9, 10, 12, 13] ?_; generalize hK : VS _ _ _ = KK; simp; (try subst hK)))
        refine (Order_yes K.ok.wf c hcl).call [(0, [])] (by simp) (by simp (maxSteps := 1000000) [hF, dL]) (by simp (maxSteps := 1000000) [hF, dL]) (by simp (maxSteps := 1000000) [hF, dL]) (by simp) ?_
        rintro av X κ ⟨rfl, rfl, rfl⟩
        generalize hK : VS _ _ _ = KK; simp (maxSteps := 1000000) [hF, dL]; (try subst hK)
        repeat first
          | refine VS.seq ?_
          | (refine VS.keepAt 14 [7, 8, 9, 10, 12, 13] ?_; generalize hK : VS _ _ _ = KK; (try simp); (try subst hK); refine VS.region tabOk (id := 14) [] (by kernel_rfl) ?_; generalize hK : VS _ _ _ = KK; simp (maxSteps := 1000000) [hF]; (try subst hK); try (refine VS.keep [7, 8, 9, 10, 12, 13, 15] ?_; generalize hK : VS _ _ _ = KK; simp; (try subst hK)))
        by_cases hs : 0 ≤ L2[c].sup
        · have hs' : ¬ L2[c].sup < 0 := by omega
          have hsl := (K.ok.sup c _ hx hs).1
          have hk := keeps_sup K.ok.wf hx hs
          obtain ⟨u, hu⟩ : ∃ u : Nat, L2[c].sup = u := ⟨L2[c].sup.toNat, by omega⟩
          rw [hu] at hk hsl hs'
          have hul : u < L2.length := by omega
          have hol2 := hlen u hul
          have hbl := behindOf_len (ordL L2 c) c
          refine (Super_yes hl2 c hcl).call [(0, [])] (by simp) (by simp (maxSteps := 1000000) [hF, dL, hu, hs']) (by simp (maxSteps := 1000000) [hF, dL, hu, hs']) (by simp (maxSteps := 1000000) [hF, dL, hu, hs']) (by simp) ?_
          rintro av X κ ⟨rfl, rfl, rfl⟩
          generalize hK : VS _ _ _ = KK; simp (maxSteps := 1000000) [hF, dL, hu, hs']; (try subst hK)
          repeat first
            | refine VS.seq ?_
            | refine VS.skip ?_
            | (refine VS.keepAt 15 [7, 8, 9, 10, 12, 13, 15] ?_; generalize hK : VS _ _ _ = KK; (try simp); (try subst hK); refine VS.region tabOk (id := 15) [] (by kernel_rfl) ?_; generalize hK : VS _ _ _ = KK; simp (maxSteps := 1000000) [hF, hu, hs']; (try subst hK); try (refine VS.keep [7, 8, 9, 10, 12, 13, 15, 71] ?_; generalize hK : VS _ _ _ = KK; simp; (try subst hK)))
            | (refine VS.keepAt 16 [7, 8, 9, 10, 12, 13, 15] ?_; generalize hK : VS _ _ _ = KK; (try simp); (try subst hK); refine VS.region tabOk (id := 16) [] (by kernel_rfl) ?_; generalize hK : VS _ _ _ = KK; simp (maxSteps := 1000000) [hF, hu, hs']; (try subst hK); try (refine VS.keep [7, 8, 9, 10, 12, 13, 17] ?_; generalize hK : VS _ _ _ = KK; simp; (try subst hK)))
            | (refine VS.cond ?_; generalize hK1 : VS _ _ _ = KK1; generalize hK2 : VS _ _ _ = KK2; simp (maxSteps := 1000000) [hF, hu, hs']; (try subst hK1); (try subst hK2))
          refine (Order_yes K.ok.wf u hul).call [(0, [])] (by simp) (by simp (maxSteps := 1000000) [hF, dL]) (by simp (maxSteps := 1000000) [hF, dL]) (by simp (maxSteps := 1000000) [hF, dL]) (by simp) ?_
          rintro av X κ ⟨rfl, rfl, rfl⟩
          generalize hK : VS _ _ _ = KK; simp (maxSteps := 1000000) [hF, dL]; (try subst hK)
          repeat first
            | refine VS.seq ?_
            | (refine VS.keepAt 17 [7, 8, 9, 10, 12, 13, 17] ?_; generalize hK : VS _ _ _ = KK; (try simp); (try subst hK); refine VS.region tabOk (id := 17) [] (by kernel_rfl) ?_; generalize hK : VS _ _ _ = KK; simp (maxSteps := 1000000) [hF]; (try subst hK); try (refine VS.keep [7, 8, 9, 10, 12, 83] ?_; generalize hK : VS _ _ _ = KK; simp; (try subst hK)))
          refine (behind_ok false (ordL L2 c) c (by omega)).call [] (by simp) (by simp (maxSteps := 1000000) [hF]) (by simp (maxSteps := 1000000) [hF]) (by simp (maxSteps := 1000000) [hF]) (by simp) ?_
          rintro av X κ ⟨e2, rfl, rfl, rfl⟩
          generalize hK : VS _ _ _ = KK; simp (maxSteps := 1000000) [hF]; (try subst hK)
          refine (within_ok e2 false (behindOf (ordL L2 c) c) (ordL L2 u) (by omega) (by omega)).call [] (by simp) (by simp (maxSteps := 1000000) [hF, hk]) (by simp (maxSteps := 1000000) [hF, hk]) (by simp (maxSteps := 1000000) [hF, hk]) (by simp) ?_
          rintro av X κ ⟨rfl, rfl, rfl⟩
          generalize hK : VS _ _ _ = KK; simp (maxSteps := 1000000) [hF, hk]; (try subst hK)
          repeat first
            | refine VS.skip ?_
            | refine VS.nil ?_
            | refine blockN_normal ?_
            | refine loopN_normal ?_
            | (refine VS.keepAt 12 [7, 8, 9, 10, 12] ?_; generalize hK : VS _ _ _ = KK; (try simp); (try subst hK); refine VS.region tabOk (id := 12) [] (by kernel_rfl) ?_; generalize hK : VS _ _ _ = KK; simp (maxSteps := 1000000) [hF]; (try subst hK); try (refine VS.keep [7, 8, 9, 10, 12] ?_; generalize hK : VS _ _ _ = KK; simp; (try subst hK)))
            | (refine VS.cond ?_; generalize hK1 : VS _ _ _ = KK1; generalize hK2 : VS _ _ _ = KK2; simp (maxSteps := 1000000) [hF]; (try subst hK1); (try subst hK2))
          refine nextK.of [7, 8, 9, 10, 12] [0] (n - 1) (by omega) (by simp [hF]) ?_
          refine ⟨c + 1, by omega, ?_⟩
          simp [dL]
          exact IntWalk.i64_in _ (by omega)
        · have hs' : L2[c].sup < 0 := by omega
          refine (Super_yes hl2 c hcl).call [(0, [])] (by simp) (by simp (maxSteps := 1000000) [hF, dL, hs']) (by simp (maxSteps := 1000000) [hF, dL, hs']) (by simp (maxSteps := 1000000) [hF, dL, hs']) (by simp) ?_
          rintro av X κ ⟨rfl, rfl, rfl⟩
          generalize hK : VS _ _ _ = KK; simp (maxSteps := 1000000) [hF, dL, hs']; (try subst hK)
          repeat first
            | refine VS.seq ?_
            | refine VS.nil ?_
            | refine loopN_normal ?_
            | refine VS.exit ?_
            | refine blockN_hit ?_
            | (refine VS.keepAt 12 [7, 8, 9, 10, 12] ?_; generalize hK : VS _ _ _ = KK; (try simp); (try subst hK); refine VS.region tabOk (id := 12) [] (by kernel_rfl) ?_; generalize hK : VS _ _ _ = KK; simp (maxSteps := 1000000) [hF, hs']; (try subst hK); try (refine VS.keep [7, 8, 9, 10, 12] ?_; generalize hK : VS _ _ _ = KK; simp; (try subst hK)))
            | (refine VS.keepAt 15 [7, 8, 9, 10, 12, 13, 15] ?_; generalize hK : VS _ _ _ = KK; (try simp); (try subst hK); refine VS.region tabOk (id := 15) [] (by kernel_rfl) ?_; generalize hK : VS _ _ _ = KK; simp (maxSteps := 1000000) [hF, hs']; (try subst hK); try (refine VS.keep [7, 8, 9, 10, 12, 13, 15, 71] ?_; generalize hK : VS _ _ _ = KK; simp; (try subst hK)))
            | (refine VS.cond ?_; generalize hK1 : VS _ _ _ = KK1; generalize hK2 : VS _ _ _ = KK2; simp (maxSteps := 1000000) [hF, hs']; (try subst hK1); (try subst hK2))
          refine nextK.of [7, 8, 9, 10, 12] [0] (n - 1) (by omega) (by simp [hF]) ?_
          refine ⟨c + 1, by omega, ?_⟩
          simp [dL]
          exact IntWalk.i64_in _ (by omega)
      · obtain ⟨f, hf, hfl⟩ := front_ex K.ok.wf K.ha
        have hKm := K.m
        have hKw := K.w
        have hKf := K.f f hf
        have hoa := hlen a K.ha
        have hob := hlen b K.hb
        repeat first
          | refine VS.seq ?_
          | refine VS.exit ?_
          | (refine VS.keepAt 19 [7, 8, 9, 10] ?_; generalize hK : VS _ _ _ = KK; (try simp); (try subst hK); refine VS.region tabOk (id := 19) [] (by kernel_rfl) ?_; generalize hK : VS _ _ _ = KK; simp (maxSteps := 1000000) [hF]; (try subst hK); try (refine VS.keep [7, 8, 9, 10, 19] ?_; generalize hK : VS _ _ _ = KK; simp; (try subst hK)))
        refine (Order_yes K.ok.wf a K.ha).call [(0, [])] (by simp) (by simp (maxSteps := 1000000) [hF, dL]) (by simp (maxSteps := 1000000) [hF, dL]) (by simp (maxSteps := 1000000) [hF, dL]) (by simp) ?_
        rintro av X κ ⟨rfl, rfl, rfl⟩
        generalize hK : VS _ _ _ = KK; simp (maxSteps := 1000000) [hF, dL]; (try subst hK)
        repeat first
          | refine VS.seq ?_
          | (refine VS.keepAt 20 [7, 8, 9, 10, 19] ?_; generalize hK : VS _ _ _ = KK; (try simp); (try subst hK); refine VS.region tabOk (id := 20) [] (by kernel_rfl) ?_; generalize hK : VS _ _ _ = KK; simp (maxSteps := 1000000) [hF]; (try subst hK); try (refine VS.keep [8, 10, 19, 21] ?_; generalize hK : VS _ _ _ = KK; simp; (try subst hK)))
        refine (Order_yes K.ok.wf b K.hb).call [(0, [])] (by simp) (by simp (maxSteps := 1000000) [hF, dL]) (by simp (maxSteps := 1000000) [hF, dL]) (by simp (maxSteps := 1000000) [hF, dL]) (by simp) ?_
        rintro av X κ ⟨rfl, rfl, rfl⟩
        generalize hK : VS _ _ _ = KK; simp (maxSteps := 1000000) [hF, dL]; (try subst hK)
        repeat first
          | refine VS.seq ?_
          | (refine VS.keepAt 21 [8, 10, 19, 21] ?_; generalize hK : VS _ _ _ = KK; (try simp); (try subst hK); refine VS.region tabOk (id := 21) [(4, 100)] (by kernel_rfl) ?_; generalize hK : VS _ _ _ = KK; simp (maxSteps := 1000000) [hF]; (try subst hK); try (refine VS.keep [8, 10, 19, 21, 102] ?_; generalize hK : VS _ _ _ = KK; simp; (try subst hK)))
        generalize ordL L2 a = oa at *
        generalize ordL L2 b = ob at *
        have hbl := behindOf_len oa a
        have hw1 : IntKind.i64.wrap ((oa.length : Int) - (behindOf oa a).length) = (oa.length : Int) - (behindOf oa a).length := IntWalk.i64_in _ (by omega)
        have hw2 : IntKind.i64.wrap ((oa.length : Int) - (behindOf oa a).length - 1) = (f : Int) := by rw [hf]; exact IntWalk.i64_in _ (by omega)
        have hw := hKw rfl
        refine (within_ok false false ob oa (by omega) (by omega)).call [] (by simp) (by simp (maxSteps := 1000000) [hF, hw]) (by simp (maxSteps := 1000000) [hF, hw]) (by simp (maxSteps := 1000000) [hF, hw]) (by simp) ?_
        rintro av X κ ⟨rfl, rfl, rfl⟩
        generalize hK : VS _ _ _ = KK; simp (maxSteps := 1000000) [hF, hw]; (try subst hK)
        repeat first
          | refine VS.seq ?_
          | refine VS.skip ?_
          | (refine VS.keepAt 23 [8, 10, 19, 21] ?_; generalize hK : VS _ _ _ = KK; (try simp); (try subst hK); refine VS.region tabOk (id := 23) [] (by kernel_rfl) ?_; generalize hK : VS _ _ _ = KK; simp (maxSteps := 1000000) [hF]; (try subst hK); try (refine VS.keep [10, 19, 21, 23] ?_; generalize hK : VS _ _ _ = KK; simp; (try subst hK)))
          | (refine VS.cond ?_; generalize hK1 : VS _ _ _ = KK1; generalize hK2 : VS _ _ _ = KK2; simp (maxSteps := 1000000) [hF]; (try subst hK1); (try subst hK2))
        refine (behind_ok false oa a (by omega)).call [] (by simp) (by simp (maxSteps := 1000000) [hF, hw1, hw2]) (by simp (maxSteps := 1000000) [hF, hw1, hw2]) (by simp (maxSteps := 1000000) [hF, hw1, hw2]) (by simp) ?_
        rintro av X κ ⟨e2, rfl, rfl, rfl⟩
        generalize hK : VS _ _ _ = KK; simp (maxSteps := 1000000) [hF, hw1, hw2]; (try subst hK)
        repeat first
          | refine VS.seq ?_
          | refine VS.block ?_
          | (refine VS.keepAt 24 [10, 19, 21, 23] ?_; generalize hK : VS _ _ _ = KK; (try simp); (try subst hK); refine VS.region tabOk (id := 24) [] (by kernel_rfl) ?_; generalize hK : VS _ _ _ = KK; simp (maxSteps := 1000000) [hF, hw1, hw2]; (try subst hK); try (refine VS.keep [10, 19, 21, 23, 24] ?_; generalize hK : VS _ _ _ = KK; simp; (try subst hK)))
        refine VS.pick [10, 19, 21, 23, 24] [] (by simp [hF]) ?_
        generalize hK : VS _ _ _ = KK; simp [hF]; (try subst hK)
        refine VS.rounds (fun n st => ∃ (i : Nat), i + n = ob.length ∧ st = ⟨[(10, .val (.bool true)), (19, .imm 1 (dInts oa) false), (21, .imm 1 (dInts ob) false), (23, avInt f), (24, avInt i)], [], [], []⟩) ⟨ob.length, 0, by omega, by simp⟩ ?_
        rintro n st ⟨i, hi, rfl⟩
        repeat first
          | refine VS.seq ?_
          | (refine VS.keepAt 25 [10, 19, 21, 23, 24] ?_; generalize hK : VS _ _ _ = KK; (try simp); (try subst hK); refine VS.region tabOk (id := 25) [] (by kernel_rfl) ?_; generalize hK : VS _ _ _ = KK; simp (maxSteps := 1000000) [hF]; (try subst hK); try (refine VS.keep [10, 19, 21, 23, 24, 114] ?_; generalize hK : VS _ _ _ = KK; simp; (try subst hK)))
          | (refine VS.cond ?_; generalize hK1 : VS _ _ _ = KK1; generalize hK2 : VS _ _ _ = KK2; simp (maxSteps := 1000000) [hF]; (try subst hK1); (try subst hK2))
        refine ⟨fun hlt2 => ?_, fun hge2 => ?_⟩
        · have hil : i < ob.length := by omega
          have hn := dInts_nth hil
          have hin : hasN oa ob[i] = true := hasN_iff.2 (hKm _ (List.getElem_mem hil))
          have hin2 : hasN (oa.take f) ob[i] = true := hasN_iff.2 (hKf rfl _ (List.getElem_mem hil))
          have hmid : (dInts oa).mid 0 f = dInts (oa.take f) := by rw [dInts_mid, List.drop_zero]
          have hf2 : (f : Int) ≤ oa.length := by omega
          have htk : (oa.take f).length ≤ oa.length := by rw [List.length_take]; omega
          repeat first
            | refine VS.seq ?_
            | refine VS.skip ?_
            | refine VS.block ?_
            | (refine VS.keepAt 27 [10, 19, 21, 23, 24] ?_; generalize hK : VS _ _ _ = KK; (try simp); (try subst hK); refine VS.drawnE tabOk mixedOk (id := 27) 32 [(7, 124), (9, 126)] [⟨0, 524288, 166153499473114484112975882535043072, 5⟩, ⟨0, 2097152, 332306998946228968225951765070086144, 5⟩, ⟨0, 16777216, 664613997892457936451903530140172288, 5⟩, ⟨6, 996920996838686904677855295210258432, 1329227995784915872903807060280344576, 5⟩, ⟨8, 1329227995784915872903807060280344576, 2658455991569831745807614120560689152, 6⟩, ⟨17, 2824609491042946229920590003095732224, 5316911983139663491615228241121378304, 0⟩, ⟨32, 5316911983139663491615228241121378304, 10633823966279326983230456482242756608, 5⟩, ⟨96, 10633823966279326983230456482242756608, 21267647932558653966460912964485513216, 5⟩, ⟨128, 21267647932558653966460912964485514240, 42535295865117307932921825928971026432, 5⟩, ⟨384, 63802943797675961899382738893456539648, 85070591730234615865843651857942052864, 5⟩, ⟨512, 85070591730234615865843651857942577152, 170141183460469231731687303715884105728, 5⟩, ⟨512, 85070591730234615865843651857950441472, 340282366920938463463374607431768211456, 5⟩, ⟨3584, 595494142111642311060905563005594370048, 680564733841876926926749214863536422912, 5⟩, ⟨512, 85070591730234615865843651857944150016, 1361129467683753853853498429727072845824, 5⟩, ⟨512, 85070591730234615865843651857958830080, 2722258935367507707706996859454145691648, 5⟩, ⟨25088, 4168458994781496177426338941039160590336, 5444517870735015415413993718908291383296, 5⟩, ⟨33280, 5529588462465250031279837370766233436160, 10889035741470030830827987437816582766592, 6⟩, ⟨70144, 11654671067042142373620580304538061242368, 21778071482940061661655974875633165533184, 0⟩, ⟨131584, 21863142074670296277521818527491107586048, 43556142965880123323311949751266331066368, 5⟩, ⟨262784, 43662481205542916593144254316088758632448, 87112285931760246646623899502532662132736, 5⟩, ⟨524416, 87133553579692805300590360415497147645952, 174224571863520493293247799005065324265472, 5⟩] (.take 0 (.take 1 (.take 2 (.take 3 (.take 4 (.fork (.alt 5 (.take 6 (.take 7 (.take 8 (.take 9 (.take 10 (.take 11 (.take 12 (.take 13 (.take 14 (.take 15 (.take 16 (.fork (.alt 17 (.take 18 (.take 19 (.take 20 (.done)))) (.nil)))))))))))))) (.nil)))))))) (.run [0, 1, 2, 3, 4] (.chk 5 (.run [5, 6, 7, 8, 9, 10, 11, 12, 13, 14, 15, 16, 17, 18, 19, 20] (.done)))) (by kernel_rfl) (by kernel_rfl) (by kernel_rfl) ?_; generalize hK : VS _ _ _ = KK; simp only [opsVc_run, opsVc_both, opsVc_chk, opsVc_done, opsVc_yes, pick_cons, pick_nil, List.getElem?_cons_zero, List.getElem?_cons_succ]; simp (maxSteps := 1000000) [hF, hn, hil]; (try subst hK); try (refine VS.keep [10, 19, 21, 23, 24, 137] ?_; generalize hK : VS _ _ _ = KK; simp; (try subst hK)))
          refine (has_ok false oa ob[i] (by omega)).call [] (by simp) (by simp (maxSteps := 1000000) [hF, hin, hn, hil, hmid, hf2, hfl]) (by simp (maxSteps := 1000000) [hF, hin, hn, hil, hmid, hf2, hfl]) (by simp (maxSteps := 1000000) [hF, hin, hn, hil, hmid, hf2, hfl]) (by simp) ?_
          rintro av X κ ⟨rfl, rfl, rfl⟩
          generalize hK : VS _ _ _ = KK; simp (maxSteps := 1000000) [hF, hin, hn, hil, hmid, hf2, hfl]; (try subst hK)
          refine (has_ok false (oa.take f) ob[i] (by omega)).call [] (by simp) (by simp (maxSteps := 1000000) [hF, hin2, hn, hil, hmid, hf2, hfl]) (by simp (maxSteps := 1000000) [hF, hin2, hn, hil, hmid, hf2, hfl]) (by simp (maxSteps := 1000000) [hF, hin2, hn, hil, hmid, hf2, hfl]) (by simp) ?_
          rintro av X κ ⟨rfl, rfl, rfl⟩
          generalize hK : VS _ _ _ = KK; simp (maxSteps := 1000000) [hF, hin2, hn, hil, hmid, hf2, hfl]; (try subst hK)
          repeat first
            | refine VS.skip ?_
            | refine VS.nil ?_
            | refine blockN_normal ?_
            | refine loopN_normal ?_
            | (refine VS.keepAt 26 [10, 19, 21, 23, 24] ?_; generalize hK : VS _ _ _ = KK; (try simp); (try subst hK); refine VS.region tabOk (id := 26) [] (by kernel_rfl) ?_; generalize hK : VS _ _ _ = KK; simp (maxSteps := 1000000) [hF]; (try subst hK); try (refine VS.keep [10, 19, 21, 23, 24] ?_; generalize hK : VS _ _ _ = KK; simp; (try subst hK)))
            | (refine VS.cond ?_; generalize hK1 : VS _ _ _ = KK1; generalize hK2 : VS _ _ _ = KK2; simp (maxSteps := 1000000) [hF]; (try subst hK1); (try subst hK2))
          refine nextK.of [10, 19, 21, 23, 24] [] (n - 1) (by omega) (by simp [hF]) ?_
          refine ⟨i + 1, by omega, ?_⟩
          simp
          exact IntWalk.i64_in _ (by omega)
        · repeat first
            | refine VS.seq ?_
            | refine VS.exit ?_
            | (refine VS.keepAt 29 [] ?_; generalize hK : VS _ _ _ = KK; (try simp); (try subst hK); refine VS.region tabOk (id := 29) [] (by kernel_rfl) ?_; generalize hK : VS _ _ _ = KK; simp (maxSteps := 1000000) [hF]; (try subst hK); try (refine VS.keep [6] ?_; generalize hK : VS _ _ _ = KK; simp; (try subst hK)))
          refine (sane_ok).call [] (by simp) (by simp (maxSteps := 1000000) [hF]) (by simp (maxSteps := 1000000) [hF]) (by simp (maxSteps := 1000000) [hF]) (by simp) ?_
          rintro av X κ ⟨rfl, rfl, rfl⟩
          generalize hK : VS _ _ _ = KK; simp (maxSteps := 1000000) [hF]; (try subst hK)
          try refine VS.ret ?_
          repeat first | refine blockN_ret ?_ | refine loopN_ret ?_
          refine endK.of [6] [] [] (by simp [hF]) (by simp [covers, mpre]) ?_
          simp [hF, retK]
  · have hB : ∀ t' : Nat, (a : Int) = t' → t' < L.length → val L b = true → (thAt L b).kind = 1 → hasN (thAt L a).ins b = false → (b : Int) ≠ a → hasN (ordL L b) a = false → ∃ r, Base (withI L t' (b :: (thAt L a).ins)) r := fun t ht hl hv hk hd _ hh => by
      obtain rfl : a = t := by omega
      exact baseI hok b a hl hv hk hd hh
    repeat first
      | (refine VS.keepAt 7 [7, 8, 9, 10] ?_; generalize hK : VS _ _ _ = KK; (try simp); (try subst hK); refine VS.region tabOk (id := 7) [] (by kernel_rfl) ?_; generalize hK : VS _ _ _ = KK; simp (maxSteps := 1000000) [hF, hc]; (try subst hK); try (refine VS.keep [7, 8, 9, 10, 11] ?_; generalize hK : VS _ _ _ = KK; simp; (try subst hK)))
    rcases putI_cases hok a b with ⟨e1, e2⟩ | ⟨k, hk1, hk2, hvb, _, e, h2, hle⟩
    · refine (include_ok hok.wf a b hB).call [(0, [])] (by simp) (by simp (maxSteps := 1000000) [hF, dL, e1, e2]) (by simp (maxSteps := 1000000) [hF, dL, e1, e2]) (by simp (maxSteps := 1000000) [hF, dL, e1, e2]) (by simp) ?_
      rintro av X κ ⟨rfl, rfl, rfl⟩
      generalize hK : VS _ _ _ = KK; simp (maxSteps := 1000000) [hF, dL, e1, e2]; (try subst hK)
      repeat first
        | refine VS.seq ?_
        | (refine VS.keepAt 8 [7, 8, 9, 10, 11] ?_; generalize hK : VS _ _ _ = KK; (try simp); (try subst hK); refine VS.region tabOk (id := 8) [] (by kernel_rfl) ?_; generalize hK : VS _ _ _ = KK; simp (maxSteps := 1000000) [hF, e2]; (try subst hK); try (refine VS.keep [7, 8, 9, 10, 50] ?_; generalize hK : VS _ _ _ = KK; simp; (try subst hK)))
        | (refine VS.keepAt 9 [] ?_; generalize hK : VS _ _ _ = KK; (try simp); (try subst hK); refine VS.region tabOk (id := 9) [] (by kernel_rfl) ?_; generalize hK : VS _ _ _ = KK; simp (maxSteps := 1000000) [hF, e2]; (try subst hK); try (refine VS.keep [6] ?_; generalize hK : VS _ _ _ = KK; simp; (try subst hK)))
        | (refine VS.cond ?_; generalize hK1 : VS _ _ _ = KK1; generalize hK2 : VS _ _ _ = KK2; simp (maxSteps := 1000000) [hF, e2]; (try subst hK1); (try subst hK2))
      refine (sane_ok).call [] (by simp) (by simp (maxSteps := 1000000) [hF]) (by simp (maxSteps := 1000000) [hF]) (by simp (maxSteps := 1000000) [hF]) (by simp) ?_
      rintro av X κ ⟨rfl, rfl, rfl⟩
      generalize hK : VS _ _ _ = KK; simp (maxSteps := 1000000) [hF]; (try subst hK)
      try refine VS.ret ?_
      repeat first | refine blockN_ret ?_ | refine loopN_ret ?_
      refine endK.of [6] [] [] (by simp [hF]) (by simp [covers, mpre]) ?_
      simp [hF, retK]
    · obtain rfl : a = k := by omega
      obtain ⟨b', hbb, hbl'⟩ := val_nat hvb
      have hbl2 : b < L.length := by omega
      have K := kept_I hk2 hbl2 h2
      refine (include_ok hok.wf a b hB).call [(0, [])] (by simp) (by simp (maxSteps := 1000000) [hF, dL, e]) (by simp (maxSteps := 1000000) [hF, dL, e]) (by simp (maxSteps := 1000000) [hF, dL, e]) (by simp) ?_
      rintro av X κ ⟨rfl, rfl, rfl⟩
      generalize hK : VS _ _ _ = KK; simp (maxSteps := 1000000) [hF, dL, e]; (try subst hK)
      generalize withI L a (↑b :: (thAt L ↑a).ins) = L2 at *
      have hl2 := K.ok.len
      have hlen : ∀ c : Nat, c < L2.length → (ordL L2 c).length ≤ 1000 := fun c hcl => K.ok.wf.base.elim fun _ B => ord_len B hcl (K.ok.wf.ord hcl)
      repeat first
        | refine VS.seq ?_
        | refine VS.skip ?_
        | refine VS.block ?_
        | (refine VS.keepAt 8 [7, 8, 9, 10, 11] ?_; generalize hK : VS _ _ _ = KK; (try simp); (try subst hK); refine VS.region tabOk (id := 8) [] (by kernel_rfl) ?_; generalize hK : VS _ _ _ = KK; simp (maxSteps := 1000000) [hF]; (try subst hK); try (refine VS.keep [7, 8, 9, 10, 50] ?_; generalize hK : VS _ _ _ = KK; simp; (try subst hK)))
        | (refine VS.keepAt 10 [7, 8, 9, 10] ?_; generalize hK : VS _ _ _ = KK; (try simp); (try subst hK); refine VS.region tabOk (id := 10) [] (by kernel_rfl) ?_; generalize hK : VS _ _ _ = KK; simp (maxSteps := 1000000) [hF]; (try subst hK); try (refine VS.keep [7, 8, 9, 10, 12] ?_; generalize hK : VS _ _ _ = KK; simp; (try subst hK)))
        | (refine VS.cond ?_; generalize hK1 : VS _ _ _ = KK1; generalize hK2 : VS _ _ _ = KK2; simp (maxSteps := 1000000) [hF]; (try subst hK1); (try subst hK2))
      refine VS.pick [7, 8, 9, 10, 12] [0] (by simp [hF]) ?_
      generalize hK : VS _ _ _ = KK; simp [hF]; (try subst hK)
      refine VS.rounds (fun n st => ∃ (c : Nat), c + n = L2.length ∧ st = ⟨[(7, .ptr 0 [.d]), (8, avInt a), (9, avInt b), (10, .val (.bool false)), (12, avInt c)], [dL L2], [], []⟩) ⟨L2.length, 0, by omega, by simp [dL]⟩ ?_
      rintro n st ⟨c, hcn, rfl⟩
      repeat first
        | refine VS.seq ?_
        | (refine VS.keepAt 11 [7, 8, 9, 10, 12] ?_; generalize hK : VS _ _ _ = KK; (try simp); (try subst hK); refine VS.region tabOk (id := 11) [] (by kernel_rfl) ?_; generalize hK : VS _ _ _ = KK; simp (maxSteps := 1000000) [hF]; (try subst hK); try (refine VS.keep [7, 8, 9, 10, 12, 55] ?_; generalize hK : VS _ _ _ = KK; simp; (try subst hK)))
      refine (len_ok L2 hl2).call [(0, [])] (by simp) (by simp (maxSteps := 1000000) [hF, dL]) (by simp (maxSteps := 1000000) [hF, dL]) (by simp (maxSteps := 1000000) [hF, dL]) (by simp) ?_
      rintro av X κ ⟨rfl, rfl, rfl⟩
      generalize hK : VS _ _ _ = KK; simp (maxSteps := 1000000) [hF, dL]; (try subst hK)
      repeat first
        | (refine VS.cond ?_; generalize hK1 : VS _ _ _ = KK1; generalize hK2 : VS _ _ _ = KK2; simp (maxSteps := 1000000) [hF]; (try subst hK1); (try subst hK2))
      refine ⟨fun hlt => ?_, fun hge => ?_⟩
      · have hcl : c < L2.length := by omega
        have hx : L2[c]? = some L2[c] := List.getElem?_eq_getElem hcl
        have hol := hlen c hcl
        repeat first
          | refine VS.seq ?_
          | refine VS.skip ?_
          | refine VS.block ?_
          | (refine VS.keepAt 13 [7, 8, 9, 10, 12] ?_; generalize hK : VS _ _ _ = KK; (try simp); (try subst hK); refine VS.region tabOk (id := 13) [] (by kernel_rfl) ?_; generalize hK : VS _ _ _ = KK; simp (maxSteps := 1000000) [hF]; (try subst hK); try (refine VS.keep [7, 8, 9, 10, 12, 13] ?_; generalize hK : VS _ _ _ = KK; simp; (try subst hK)))
        refine (Order_yes K.ok.wf c hcl).call [(0, [])] (by simp) (by simp (maxSteps := 1000000) [hF, dL]) (by simp (maxSteps := 1000000) [hF, dL]) (by simp (maxSteps := 1000000) [hF, dL]) (by simp) ?_
        rintro av X κ ⟨rfl, rfl, rfl⟩
        generalize hK : VS _ _ _ = KK; simp (maxSteps := 1000000) [hF, dL]; (try subst hK)
        repeat first
          | refine VS.seq ?_
          | (refine VS.keepAt 14 [7, 8, 9, 10, 12, 13] ?_; generalize hK : VS _ _ _ = KK; (try simp); (try subst hK); refine VS.region tabOk (id := 14) [] (by kernel_rfl) ?_; generalize hK : VS _ _ _ = KK; simp (maxSteps := 1000000) [hF]; (try subst hK); try (refine VS.keep [7, 8, 9, 10, 12, 13, 15] ?_; generalize hK : VS _ _ _ = KK; simp; (try subst hK)))
        by_cases hs : 0 ≤ L2[c].sup
        · have hs' : ¬ L2[c].sup < 0 := by omega
          have hsl := (K.ok.sup c _ hx hs).1
          have hk := keeps_sup K.ok.wf hx hs
          obtain ⟨u, hu⟩ : ∃ u : Nat, L2[c].sup = u := ⟨L2[c].sup.toNat, by omega⟩
          rw [hu] at hk hsl hs'
          have hul : u < L2.length := by omega
          have hol2 := hlen u hul
          have hbl := behindOf_len (ordL L2 c) c
          refine (Super_yes hl2 c hcl).call [(0, [])] (by simp) (by simp (maxSteps := 1000000) [hF, dL, hu, hs']) (by simp (maxSteps := 1000000) [hF, dL, hu, hs']) (by simp (maxSteps := 1000000) [hF, dL, hu, hs']) (by simp) ?_
          rintro av X κ ⟨rfl, rfl, rfl⟩
          generalize hK : VS _ _ _ = KK; simp (maxSteps := 1000000) [hF, dL, hu, hs']; (try subst hK)
          repeat first
            | refine VS.seq ?_
            | refine VS.skip ?_
            | (refine VS.keepAt 15 [7, 8, 9, 10, 12, 13, 15] ?_; generalize hK : VS _ _ _ = KK; (try simp); (try subst hK); refine VS.region tabOk (id := 15) [] (by kernel_rfl) ?_; generalize hK : VS _ _ _ = KK; simp (maxSteps := 1000000) [hF, hu, hs']; (try subst hK); try (refine VS.keep [7, 8, 9, 10, 12, 13, 15, 71] ?_; generalize hK : VS _ _ _ = KK; simp; (try subst hK)))
            | (refine VS.keepAt 16 [7, 8, 9, 10, 12, 13, 15] ?_; generalize hK : VS _ _ _ = KK; (try simp); (try subst hK); refine VS.region tabOk (id := 16) [] (by kernel_rfl) ?_; generalize hK : VS _ _ _ = KK; simp (maxSteps := 1000000) [hF, hu, hs']; (try subst hK); try (refine VS.keep [7, 8, 9, 10, 12, 13, 17] ?_; generalize hK : VS _ _ _ = KK; simp; (try subst hK)))
            | (refine VS.cond ?_; generalize hK1 : VS _ _ _ = KK1; generalize hK2 : VS _ _ _ = KK2; simp (maxSteps := 1000000) [hF, hu, hs']; (try subst hK1); (try subst hK2))
          refine (Order_yes K.ok.wf u hul).call [(0, [])] (by simp) (by simp (maxSteps := 1000000) [hF, dL]) (by simp (maxSteps := 1000000) [hF, dL]) (by simp (maxSteps := 1000000) [hF, dL]) (by simp) ?_
          rintro av X κ ⟨rfl, rfl, rfl⟩
          generalize hK : VS _ _ _ = KK; simp (maxSteps := 1000000) [hF, dL]; (try subst hK)
          repeat first
            | refine VS.seq ?_
            | (refine VS.keepAt 17 [7, 8, 9, 10, 12, 13, 17] ?_; generalize hK : VS _ _ _ = KK; (try simp); (try subst hK); refine VS.region tabOk (id := 17) [] (by kernel_rfl) ?_; generalize hK : VS _ _ _ = KK; simp (maxSteps := 1000000) [hF]; (try subst hK); try (refine VS.keep [7, 8, 9, 10, 12, 83] ?_; generalize hK : VS _ _ _ = KK; simp; (try subst hK)))
          refine (behind_ok false (ordL L2 c) c (by omega)).call [] (by simp) (by simp (maxSteps := 1000000) [hF]) (by simp (maxSteps := 1000000) [hF]) (by simp (maxSteps := 1000000) [hF]) (by simp) ?_
          rintro av X κ ⟨e2, rfl, rfl, rfl⟩
          generalize hK : VS _ _ _ = KK; simp (maxSteps := 1000000) [hF]; (try subst hK)
          refine (within_ok e2 false (behindOf (ordL L2 c) c) (ordL L2 u) (by omega) (by omega)).call [] (by simp) (by simp (maxSteps := 1000000) [hF, hk]) (by simp (maxSteps := 1000000) [hF, hk]) (by simp (maxSteps := 1000000) [hF, hk]) (by simp) ?_
          rintro av X κ ⟨rfl, rfl, rfl⟩
          generalize hK : VS _ _ _ = KK; simp (maxSteps := 1000000) [hF, hk]; (try subst hK)
          repeat first
            | refine VS.skip ?_
            | refine VS.nil ?_
            | refine blockN_normal ?_
            | refine loopN_normal ?_
            | (refine VS.keepAt 12 [7, 8, 9, 10, 12] ?_; generalize hK : VS _ _ _ = KK; (try simp); (try subst hK); refine VS.region tabOk (id := 12) [] (by kernel_rfl) ?_; generalize hK : VS _ _ _ = KK; simp (maxSteps := 1000000) [hF]; (try subst hK); try (refine VS.keep [7, 8, 9, 10, 12] ?_; generalize hK : VS _ _ _ = KK; simp; (try subst hK)))
            | (refine VS.cond ?_; generalize hK1 : VS _ _ _ = KK1; generalize hK2 : VS _ _ _ = KK2; simp (maxSteps := 1000000) [hF]; (try subst hK1); (try subst hK2))
          refine nextK.of [7, 8, 9, 10, 12] [0] (n - 1) (by omega) (by simp [hF]) ?_
          refine ⟨c + 1, by omega, ?_⟩
          simp [dL]
          exact IntWalk.i64_in _ (by omega)
        · have hs' : L2[c].sup < 0 := by omega
          refine (Super_yes hl2 c hcl).call [(0, [])] (by simp) (by simp (maxSteps := 1000000) [hF, dL, hs']) (by simp (maxSteps := 1000000) [hF, dL, hs']) (by simp (maxSteps := 1000000) [hF, dL, hs']) (by simp) ?_
          rintro av X κ ⟨rfl, rfl, rfl⟩
          generalize hK : VS _ _ _ = KK; simp (maxSteps := 1000000) [hF, dL, hs']; (try subst hK)
          repeat first
            | refine VS.seq ?_
            | refine VS.nil ?_
            | refine loopN_normal ?_
            | refine VS.exit ?_
            | refine blockN_hit ?_
            | (refine VS.keepAt 12 [7, 8, 9, 10, 12] ?_; generalize hK : VS _ _ _ = KK; (try simp); (try subst hK); refine VS.region tabOk (id := 12) [] (by kernel_rfl) ?_; generalize hK : VS _ _ _ = KK; simp (maxSteps := 1000000) [hF, hs']; (try subst hK); try (refine VS.keep [7, 8, 9, 10, 12] ?_; generalize hK : VS _ _ _ = KK; simp; (try subst hK)))
            | (refine VS.keepAt 15 [7, 8, 9, 10, 12, 13, 15] ?_; generalize hK : VS _ _ _ = KK; (try simp); (try subst hK); refine VS.region tabOk (id := 15) [] (by kernel_rfl) ?_; generalize hK : VS _ _ _ = KK; simp (maxSteps := 1000000) [hF, hs']; (try subst hK); try (refine VS.keep [7, 8, 9, 10, 12, 13, 15, 71] ?_; generalize hK : VS _ _ _ = KK; simp; (try subst hK)))
            | (refine VS.cond ?_; generalize hK1 : VS _ _ _ = KK1; generalize hK2 : VS _ _ _ = KK2; simp (maxSteps := 1000000) [hF, hs']; (try subst hK1); (try subst hK2))
          refine nextK.of [7, 8, 9, 10, 12] [0] (n - 1) (by omega) (by simp [hF]) ?_
          refine ⟨c + 1, by omega, ?_⟩
          simp [dL]
          exact IntWalk.i64_in _ (by omega)
      · obtain ⟨f, hf, hfl⟩ := front_ex K.ok.wf K.ha
        have hKm := K.m
        have hKw := K.w
        have hKf := K.f f hf
        have hoa := hlen a K.ha
        have hob := hlen b K.hb
        repeat first
          | refine VS.seq ?_
          | refine VS.exit ?_
          | (refine VS.keepAt 19 [7, 8, 9, 10] ?_; generalize hK : VS _ _ _ = KK; (try simp); (try subst hK); refine VS.region tabOk (id := 19) [] (by kernel_rfl) ?_; generalize hK : VS _ _ _ = KK; simp (maxSteps := 1000000) [hF]; (try subst hK); try (refine VS.keep [7, 8, 9, 10, 19] ?_; generalize hK : VS _ _ _ = KK; simp; (try subst hK)))
        refine (Order_yes K.ok.wf a K.ha).call [(0, [])] (by simp) (by simp (maxSteps := 1000000) [hF, dL]) (by simp (maxSteps := 1000000) [hF, dL]) (by simp (maxSteps := 1000000) [hF, dL]) (by simp) ?_
        rintro av X κ ⟨rfl, rfl, rfl⟩
        generalize hK : VS _ _ _ = KK; simp (maxSteps := 1000000) [hF, dL]; (try subst hK)
        repeat first
          | refine VS.seq ?_
          | (refine VS.keepAt 20 [7, 8, 9, 10, 19] ?_; generalize hK : VS _ _ _ = KK; (try simp); (try subst hK); refine VS.region tabOk (id := 20) [] (by kernel_rfl) ?_; generalize hK : VS _ _ _ = KK; simp (maxSteps := 1000000) [hF]; (try subst hK); try (refine VS.keep [8, 10, 19, 21] ?_; generalize hK : VS _ _ _ = KK; simp; (try subst hK)))
        refine (Order_yes K.ok.wf b K.hb).call [(0, [])] (by simp) (by simp (maxSteps := 1000000) [hF, dL]) (by simp (maxSteps := 1000000) [hF, dL]) (by simp (maxSteps := 1000000) [hF, dL]) (by simp) ?_
        rintro av X κ ⟨rfl, rfl, rfl⟩
        generalize hK : VS _ _ _ = KK; simp (maxSteps := 1000000) [hF, dL]; (try subst hK)
        repeat first
          | refine VS.seq ?_
          | (refine VS.keepAt 21 [8, 10, 19, 21] ?_; generalize hK : VS _ _ _ = KK; (try simp); (try subst hK); refine VS.region tabOk (id := 21) [(4, 100)] (by kernel_rfl) ?_; generalize hK : VS _ _ _ = KK; simp (maxSteps := 1000000) [hF]; (try subst hK); try (refine VS.keep [8, 10, 19, 21, 102] ?_; generalize hK : VS _ _ _ = KK; simp; (try subst hK)))
        generalize ordL L2 a = oa at *
        generalize ordL L2 b = ob at *
        have hbl := behindOf_len oa a
        have hw1 : IntKind.i64.wrap ((oa.length : Int) - (behindOf oa a).length) = (oa.length : Int) - (behindOf oa a).length := IntWalk.i64_in _ (by omega)
        have hw2 : IntKind.i64.wrap ((oa.length : Int) - (behindOf oa a).length - 1) = (f : Int) := by rw [hf]; exact IntWalk.i64_in _ (by omega)
        cases hw : withinF oa ob (-1)
        all_goals
          refine (within_ok false false ob oa (by omega) (by omega)).call [] (by simp) (by simp (maxSteps := 1000000) [hF, hw]) (by simp (maxSteps := 1000000) [hF, hw]) (by simp (maxSteps := 1000000) [hF, hw]) (by simp) ?_
          rintro av X κ ⟨rfl, rfl, rfl⟩
          generalize hK : VS _ _ _ = KK; simp (maxSteps := 1000000) [hF, hw]; (try subst hK)
          repeat first
            | refine VS.seq ?_
            | refine VS.skip ?_
            | (refine VS.keepAt 23 [8, 10, 19, 21] ?_; generalize hK : VS _ _ _ = KK; (try simp); (try subst hK); refine VS.region tabOk (id := 23) [] (by kernel_rfl) ?_; generalize hK : VS _ _ _ = KK; simp (maxSteps := 1000000) [hF]; (try subst hK); try (refine VS.keep [10, 19, 21, 23] ?_; generalize hK : VS _ _ _ = KK; simp; (try subst hK)))
            | (refine VS.cond ?_; generalize hK1 : VS _ _ _ = KK1; generalize hK2 : VS _ _ _ = KK2; simp (maxSteps := 1000000) [hF]; (try subst hK1); (try subst hK2))
          refine (behind_ok false oa a (by omega)).call [] (by simp) (by simp (maxSteps := 1000000) [hF, hw1, hw2]) (by simp (maxSteps := 1000000) [hF, hw1, hw2]) (by simp (maxSteps := 1000000) [hF, hw1, hw2]) (by simp) ?_
          rintro av X κ ⟨e2, rfl, rfl, rfl⟩
          generalize hK : VS _ _ _ = KK; simp (maxSteps := 1000000) [hF, hw1, hw2]; (try subst hK)
          repeat first
            | refine VS.seq ?_
            | refine VS.block ?_
            | (refine VS.keepAt 24 [10, 19, 21, 23] ?_; generalize hK : VS _ _ _ = KK; (try simp); (try subst hK); refine VS.region tabOk (id := 24) [] (by kernel_rfl) ?_; generalize hK : VS _ _ _ = KK; simp (maxSteps := 1000000) [hF, hw1, hw2]; (try subst hK); try (refine VS.keep [10, 19, 21, 23, 24] ?_; generalize hK : VS _ _ _ = KK; simp; (try subst hK)))
          refine VS.pick [10, 19, 21, 23, 24] [] (by simp [hF]) ?_
          generalize hK : VS _ _ _ = KK; simp [hF]; (try subst hK)
          refine VS.rounds (fun n st => ∃ (i : Nat), i + n = ob.length ∧ st = ⟨[(10, .val (.bool false)), (19, .imm 1 (dInts oa) false), (21, .imm 1 (dInts ob) false), (23, avInt f), (24, avInt i)], [], [], []⟩) ⟨ob.length, 0, by omega, by simp⟩ ?_
          rintro n st ⟨i, hi, rfl⟩
          repeat first
            | refine VS.seq ?_
            | (refine VS.keepAt 25 [10, 19, 21, 23, 24] ?_; generalize hK : VS _ _ _ = KK; (try simp); (try subst hK); refine VS.region tabOk (id := 25) [] (by kernel_rfl) ?_; generalize hK : VS _ _ _ = KK; simp (maxSteps := 1000000) [hF]; (try subst hK); try (refine VS.keep [10, 19, 21, 23, 24, 114] ?_; generalize hK : VS _ _ _ = KK; simp; (try subst hK)))
            | (refine VS.cond ?_; generalize hK1 : VS _ _ _ = KK1; generalize hK2 : VS _ _ _ = KK2; simp (maxSteps := 1000000) [hF]; (try subst hK1); (try subst hK2))
          refine ⟨fun hlt2 => ?_, fun hge2 => ?_⟩
          · have hil : i < ob.length := by omega
            have hn := dInts_nth hil
            have hin : hasN oa ob[i] = true := hasN_iff.2 (hKm _ (List.getElem_mem hil))
            repeat first
              | refine VS.seq ?_
              | refine VS.skip ?_
              | refine VS.block ?_
              | (refine VS.keepAt 27 [10, 19, 21, 23, 24] ?_; generalize hK : VS _ _ _ = KK; (try simp); (try subst hK); refine VS.drawnE tabOk mixedOk (id := 27) 32 [(7, 124), (9, 126)] [⟨0, 524288, 166153499473114484112975882535043072, 5⟩, ⟨0, 2097152, 332306998946228968225951765070086144, 5⟩, ⟨0, 16777216, 664613997892457936451903530140172288, 5⟩, ⟨6, 996920996838686904677855295210258432, 1329227995784915872903807060280344576, 5⟩, ⟨8, 1329227995784915872903807060280344576, 2658455991569831745807614120560689152, 6⟩, ⟨17, 2824609491042946229920590003095732224, 5316911983139663491615228241121378304, 0⟩, ⟨32, 5316911983139663491615228241121378304, 10633823966279326983230456482242756608, 5⟩, ⟨96, 10633823966279326983230456482242756608, 21267647932558653966460912964485513216, 5⟩, ⟨128, 21267647932558653966460912964485514240, 42535295865117307932921825928971026432, 5⟩, ⟨384, 63802943797675961899382738893456539648, 85070591730234615865843651857942052864, 5⟩, ⟨512, 85070591730234615865843651857942577152, 170141183460469231731687303715884105728, 5⟩, ⟨512, 85070591730234615865843651857950441472, 340282366920938463463374607431768211456, 5⟩, ⟨3584, 595494142111642311060905563005594370048, 680564733841876926926749214863536422912, 5⟩, ⟨512, 85070591730234615865843651857944150016, 1361129467683753853853498429727072845824, 5⟩, ⟨512, 85070591730234615865843651857958830080, 2722258935367507707706996859454145691648, 5⟩, ⟨25088, 4168458994781496177426338941039160590336, 5444517870735015415413993718908291383296, 5⟩, ⟨33280, 5529588462465250031279837370766233436160, 10889035741470030830827987437816582766592, 6⟩, ⟨70144, 11654671067042142373620580304538061242368, 21778071482940061661655974875633165533184, 0⟩, ⟨131584, 21863142074670296277521818527491107586048, 43556142965880123323311949751266331066368, 5⟩, ⟨262784, 43662481205542916593144254316088758632448, 87112285931760246646623899502532662132736, 5⟩, ⟨524416, 87133553579692805300590360415497147645952, 174224571863520493293247799005065324265472, 5⟩] (.take 0 (.take 1 (.take 2 (.take 3 (.take 4 (.fork (.alt 5 (.take 6 (.take 7 (.take 8 (.take 9 (.take 10 (.take 11 (.take 12 (.take 13 (.take 14 (.take 15 (.take 16 (.fork (.alt 17 (.take 18 (.take 19 (.take 20 (.done)))) (.nil)))))))))))))) (.nil)))))))) (.run [0, 1, 2, 3, 4] (.chk 5 (.run [5, 6, 7, 8, 9, 10, 11, 12, 13, 14, 15, 16, 17, 18, 19, 20] (.done)))) (by kernel_rfl) (by kernel_rfl) (by kernel_rfl) ?_; generalize hK : VS _ _ _ = KK; simp only [opsVc_run, opsVc_both, opsVc_chk, opsVc_done, opsVc_yes, pick_cons, pick_nil, List.getElem?_cons_zero, List.getElem?_cons_succ]; simp (maxSteps := 1000000) [hF, hn, hil]; (try subst hK); try (refine VS.keep [10, 19, 21, 23, 24, 137] ?_; generalize hK : VS _ _ _ = KK; simp; (try subst hK)))
            refine (has_ok false oa ob[i] (by omega)).call [] (by simp) (by simp (maxSteps := 1000000) [hF, hin, hn, hil]) (by simp (maxSteps := 1000000) [hF, hin, hn, hil]) (by simp (maxSteps := 1000000) [hF, hin, hn, hil]) (by simp) ?_
            rintro av X κ ⟨rfl, rfl, rfl⟩
            generalize hK : VS _ _ _ = KK; simp (maxSteps := 1000000) [hF, hin, hn, hil]; (try subst hK)
            repeat first
              | refine VS.skip ?_
              | refine VS.nil ?_
              | refine blockN_normal ?_
              | refine loopN_normal ?_
              | (refine VS.keepAt 26 [10, 19, 21, 23, 24] ?_; generalize hK : VS _ _ _ = KK; (try simp); (try subst hK); refine VS.region tabOk (id := 26) [] (by kernel_rfl) ?_; generalize hK : VS _ _ _ = KK; simp (maxSteps := 1000000) [hF, hn, hil]; (try subst hK); try (refine VS.keep [10, 19, 21, 23, 24] ?_; generalize hK : VS _ _ _ = KK; simp; (try subst hK)))
              | (refine VS.cond ?_; generalize hK1 : VS _ _ _ = KK1; generalize hK2 : VS _ _ _ = KK2; simp (maxSteps := 1000000) [hF, hn, hil]; (try subst hK1); (try subst hK2))
            refine nextK.of [10, 19, 21, 23, 24] [] (n - 1) (by omega) (by simp [hF]) ?_
            refine ⟨i + 1, by omega, ?_⟩
            simp
            exact IntWalk.i64_in _ (by omega)
          · repeat first
              | refine VS.seq ?_
              | refine VS.exit ?_
              | (refine VS.keepAt 29 [] ?_; generalize hK : VS _ _ _ = KK; (try simp); (try subst hK); refine VS.region tabOk (id := 29) [] (by kernel_rfl) ?_; generalize hK : VS _ _ _ = KK; simp (maxSteps := 1000000) [hF]; (try subst hK); try (refine VS.keep [6] ?_; generalize hK : VS _ _ _ = KK; simp; (try subst hK)))
            refine (sane_ok).call [] (by simp) (by simp (maxSteps := 1000000) [hF]) (by simp (maxSteps := 1000000) [hF]) (by simp (maxSteps := 1000000) [hF]) (by simp) ?_
            rintro av X κ ⟨rfl, rfl, rfl⟩
            generalize hK : VS _ _ _ = KK; simp (maxSteps := 1000000) [hF]; (try subst hK)
            try refine VS.ret ?_
            repeat first | refine blockN_ret ?_ | refine loopN_ret ?_
            refine endK.of [6] [] [] (by simp [hF]) (by simp [covers, mpre]) ?_
            simp [hF, retK]
end Go.Proofs.Ytahgopdamgagkaa

/- Proved: LineageKeeps returns true for every input, and its arguments read behind the call as before. No condition. -/
namespace Go.Proofs.Ytahgopdamgagkaa.lineageKeeps
set_option linter.all false
open Go.Vc Go.ChangeShapes Go.WideShapes Go.ChangeAt Go.RowKit
set_option linter.unusedVariables false

theorem own : ownKnob Try.prog.godebug = none := by kernel_rfl
theorem laid : laidOutB Try.prog = true := by kernel_rfl

set_option maxRecDepth 100000 in
theorem lifted (os : Os) (started : os.Started) (H : Type) (enc : TypeId × Value → H) :
    ReturnsInHanded {} Try.checked os 5 .any (Rows.lineageKeepsSpec.pre6 enc Try.prog Try.f5 Rows.lineageKeepsRow.domain false) (Rows.lineageKeepsSpec.post enc Try.prog Try.f5 false true false false) := by
  refine returnsInHanded_of_change (C := Try.checked) own started (by kernel_rfl) Try.func5
    (ChangeSpec.witness6 (enc := enc) (C := Try.checked) false ⟨#[], #[.slice none 0 0, .int .i64 0, .int .i64 0], []⟩ 8 (by kernel_rfl) (by kernel_rfl) (by kernel_rfl) (by kernel_rfl)) ?_
  intro W base args ds gs before hval0 hW hcnd _
  have hval : ∀ (j : Nat) t v, Try.f5.params[j]? = some t → args[j]? = some v → Value.okWide Try.prog W .any base t v := hval0
  have hW' := hW
  obtain ⟨p, q, hA0, hV, rfl, hfz, hnd⟩ := hW
  have hA : DataW.TrodAll enc Try.prog W 0 (fun _ => true) true Try.f5.params.toList args.toList ds p := hA0
  rw [Try.params5] at hA hval
  obtain ⟨v0, vs0, d0, ds0, p0, q0, hargs0, rfl, rfl, h0, r0⟩ := trodAll_cons hA
  obtain ⟨v1, vs1, d1, ds1, p1, q1, hargs1, rfl, rfl, h1, r1⟩ := trodAll_cons r0
  obtain ⟨v2, vs2, d2, ds2, p2, q2, hargs2, rfl, rfl, h2, r2⟩ := trodAll_cons r1
  obtain ⟨rfl, rfl, rfl⟩ := trodAll_nil r2
  subst hargs2
  subst hargs1
  obtain rfl : args = #[v0, v1, v2] := by cases args; simp_all
  obtain ⟨rfl, rfl⟩ := trodVars_none hV
  obtain ⟨a0, hlen0, hr0⟩ := deeds_of (hval 0 22 v0 rfl rfl) h0
  obtain ⟨a1, hr1⟩ := int_of (hval 1 3 v1 rfl rfl) h1
  obtain ⟨a2, hr2⟩ := int_of (hval 2 3 v2 rfl rfl) h2
  clear hA0 hval0
  have hwalk : Calls Try.prog 5 #[v0, v1, v2] W fun e w' => e = .returned (.bool true) ∧ Below W.heap.size W w' :=
    Meets.law (keeps_ok false a0 a1 a2) (vs := [v0, v1, v2]) (I := allB W) (fun _ h => h) ⟨v0, _, rfl, hr0, ⟨v1, _, rfl, hr1, ⟨v2, _, rfl, hr2, rfl⟩⟩⟩
  refine hwalk.mono fun e W' ⟨he, bel⟩ => ?_
  subst he
  exact ⟨_, rfl, _, _, _, [], _, [], hW', trodAll_mk1 (shut_bool Try.underlying4 _), (trodAll_cons_mk (Below.trod laid (by kernel_rfl) (of_decide_eq_true (by kernel_rfl)) h0 bel fun x hx => hW'.lt x (by simp [hx])) (trodAll_cons_mk (Below.trod laid (by kernel_rfl) (of_decide_eq_true (by kernel_rfl)) h1 bel fun x hx => hW'.lt x (by simp [hx])) (trodAll_cons_mk (Below.trod laid (by kernel_rfl) (of_decide_eq_true (by kernel_rfl)) h2 bel fun x hx => hW'.lt x (by simp [hx])) trodAll_mk0))), rfl, bel.frame _, fun h => by cases h⟩

theorem over : Rows.lineageKeepsRow.holds Try.pinned (OpenSpec.ofChange Rows.lineageKeepsSpec) :=
  OpenClaim.holds_of_wide 5 Try.f5 rfl rfl rfl rfl rfl rfl rfl ⟨rfl, rfl, rfl, rfl, rfl⟩ rfl rfl rfl rfl rfl (by kernel_rfl) Try.func5 (by kernel_rfl)
    (of_decide_eq_true (by kernel_rfl)) (by unfold Func.isWrapper; first | (rw [if_pos (by decide +kernel)]; kernel_rfl) | (rw [if_neg (by decide +kernel)]; exact ⟨rfl, rfl⟩))
    (fun os started H enc _ => lifted os started H enc)

/-- THE STATEMENT -/
theorem proved : Rows.LineageKeepsSaid :=
  over
end Go.Proofs.Ytahgopdamgagkaa.lineageKeeps
