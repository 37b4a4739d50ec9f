/- Plain laws: the same names in the same order lead to the same shape. -/
import Derived.Test.YthcndkpkkaphoaaK4
import Derived.Test.YthcndkpkkaphoaaK3
import Derived.ChangeArms
import Derived.ChangeSlices
import Derived.Carry
namespace Go.Proofs.Ythcndkpkkaphoaa
set_option linter.all false
open Go.Vc Go.Proofs

/-- The shape that names lead to. -/
def walk (l : List Sh) : Int → List ByteArray → Option Int
  | k, [] => some k
  | k, n :: ns => if 0 ≤ belowOf l k n then walk l (belowOf l k n) ns else none

theorem walk_append (l : List Sh) (n : ByteArray) : ∀ (ns : List ByteArray) (k : Int), walk l k (ns ++ [n]) = (walk l k ns).bind fun k' => if 0 ≤ belowOf l k' n then some (belowOf l k' n) else none
  | [], k => by simp [walk]
  | m :: ns, k => by
    simp only [List.cons_append, walk]
    split
    · exact walk_append l n ns _
    · rfl

theorem walk_prefix {l : List Sh} : ∀ (ns : List ByteArray) {ms : List ByteArray} {k r : Int}, walk l k (ns ++ ms) = some r → ∃ r', walk l k ns = some r'
  | [], _, k, _, _ => ⟨k, rfl⟩
  | n :: ns, ms, k, r, h => by
    simp only [List.cons_append, walk] at h ⊢
    split at h
    · rename_i h1; rw [if_pos h1]; exact walk_prefix ns h
    · cases h

theorem posBy_append {α : Type} (f : α → Bool) (l m : List α) (h : 0 ≤ posBy f l) : posBy f (l ++ m) = posBy f l := by
  rcases posBy_cases f l with ⟨h1, _⟩ | ⟨i, hi, h1, h2, h3⟩
  · omega
  · rw [h1]
    refine posBy_at (by simp; omega) (by rw [List.getElem_append_left hi]; exact h2) fun j hj hj' => ?_
    rw [List.getElem_append_left (show j < l.length by omega)]
    exact h3 j hj (by omega)

theorem posBy_snoc {α : Type} (f : α → Bool) (l : List α) (x : α) (h : ¬ 0 ≤ posBy f l) (hx : f x = true) : posBy f (l ++ [x]) = l.length := by
  rcases posBy_cases f l with ⟨_, h2⟩ | ⟨i, hi, h1, _⟩
  · refine posBy_at (by simp) (by simpa using hx) fun j hj hj' => ?_
    rw [List.getElem_append_left hj]
    exact h2 j hj
  · omega

theorem walk_mono {l : List Sh} (m : List Sh) : ∀ (ns : List ByteArray) {k r : Int}, walk l k ns = some r → walk (l ++ m) k ns = some r
  | [], _, _, h => h
  | n :: ns, k, r, h => by
    simp only [walk] at h ⊢
    split at h
    · rename_i h1
      have e : belowOf (l ++ m) k n = belowOf l k n := posBy_append _ _ _ h1
      rw [e, if_pos h1]
      exact walk_mono m ns h
    · cases h

/-- Each name once. -/
def once (acc : List ByteArray) (n : ByteArray) : List ByteArray := if 0 ≤ posIn n acc then acc else acc ++ [n]
theorem once_in {acc : List ByteArray} {n : ByteArray} (h : n ∈ acc) : once acc n = acc := if_pos (posIn_mem h)
theorem once_out {acc : List ByteArray} {n : ByteArray} (h : n ∉ acc) : once acc n = acc ++ [n] := if_neg fun h' => h (by obtain ⟨i, hi, _, h2⟩ := posIn_nonneg h'; rw [← h2]; exact List.getElem_mem hi)
def onces (ns : List ByteArray) : List ByteArray := ns.foldl once []
theorem onces_snoc (ns : List ByteArray) (n : ByteArray) : onces (ns ++ [n]) = once (onces ns) n := by simp [onces]
theorem onces_len : ∀ (ns : List ByteArray), (onces ns).length ≤ ns.length := by
  have : ∀ (ns acc : List ByteArray), (ns.foldl once acc).length ≤ acc.length + ns.length := by
    intro ns
    induction ns with
    | nil => intro acc; simp
    | cons n ns ih =>
      intro acc
      have h1 := ih (once acc n)
      have h2 : (once acc n).length ≤ acc.length + 1 := by unfold once; split <;> simp
      simp only [List.foldl_cons, List.length_cons]
      omega
  intro ns
  simpa [onces] using this ns []
theorem onces_prefix (ns ms : List ByteArray) : ∃ r, onces (ns ++ ms) = onces ns ++ r := by
  have : ∀ (ms acc : List ByteArray), ∃ r, ms.foldl once acc = acc ++ r := by
    intro ms
    induction ms with
    | nil => intro acc; exact ⟨[], by simp⟩
    | cons m ms ih =>
      intro acc
      obtain ⟨r, h⟩ := ih (once acc m)
      simp only [List.foldl_cons, h]
      unfold once
      split
      · exact ⟨r, rfl⟩
      · exact ⟨m :: r, by simp⟩
  obtain ⟨r, h⟩ := this ms (onces ns)
  exact ⟨r, by simp [onces] at h ⊢; exact h⟩

/-- A space where an object got names. -/
structure Got (S : Sp) (a : Nat) (ns : List ByteArray) : Prop where
  lt : a < S.objs.length
  names : S.objs[a].names = onces ns
  frozen : S.objs[a].frozen = false
  walk : walk S.shapes 0 (onces ns) = some S.objs[a].shape
  shape : 0 ≤ S.objs[a].shape

theorem Got.set {S : Sp} {a : Nat} {ns : List ByteArray} (h : Got S a ns) (hp : 0 < S.shapes.length) {n : ByteArray} (hn : namedB n = true) (w : Int) (hl : ns.length < 12)
    (hroom : n ∈ onces ns ∨ S.shapes.length < 200 ∨ 0 ≤ belowOf S.shapes (S.objs[a]'h.lt).shape n) :
    Got (setOf S a n w).1 a (ns ++ [n]) ∧ (∃ m, (setOf S a n w).1.shapes = S.shapes ++ m ∧ m.length ≤ 1 ∧ (n ∈ onces ns ∨ 0 ≤ belowOf S.shapes (S.objs[a]'h.lt).shape n → m = [])) ∧ (setOf S a n w).2 = 0 ∧
      (setOf S a n w).1.objs.length = S.objs.length ∧ ∀ b, b ≠ a → (setOf S a n w).1.objs[b]? = S.objs[b]? := by
  have ha := h.lt
  have hb : hasB S a = true := by simp [hasB]; omega
  have hn' : ¬ (n = noName ∨ 40 < n.size) := by simpa [namedB] using hn
  have hask : askOf S a n true = 0 := by simp [askOf, hb, hn', obAt_eq ha, h.frozen]
  by_cases hp : 0 ≤ posIn n S.objs[a].names
  · have hm : n ∈ onces ns := by
      obtain ⟨i, hi, _, h2⟩ := posIn_nonneg hp
      rw [← h.names, ← h2]; exact List.getElem_mem hi
    have e : setOf S a n w = (setOb S a { S.objs[a] with words := S.objs[a].words.set (posIn n S.objs[a].names).toNat w }, 0) := by
      unfold setOf; rw [if_neg (by simp [hask]), obAt_eq ha, if_pos hp]
    rw [e]
    have e2 : onces (ns ++ [n]) = onces ns := by rw [onces_snoc, once_in hm]
    refine ⟨⟨by simpa [setOb] using ha, ?_, ?_, ?_, ?_⟩, ⟨[], by simp [setOb], by simp, fun _ => rfl⟩, rfl, by simp [setOb], fun b hb => by simp [setOb, List.getElem?_set_ne (Ne.symm hb)]⟩
    · simp only [setOb, Int.toNat_natCast, List.getElem_set_self, e2]; exact h.names
    · simp only [setOb, Int.toNat_natCast, List.getElem_set_self]; exact h.frozen
    · simp only [setOb, Int.toNat_natCast, List.getElem_set_self, e2]; exact h.walk
    · simp only [setOb, Int.toNat_natCast, List.getElem_set_self]; exact h.shape
  · have hm : n ∉ onces ns := by rw [← h.names]; exact posIn_neg hp
    have e2 : onces (ns ++ [n]) = onces ns ++ [n] := by rw [onces_snoc, once_out hm]
    have e : setOf S a n w = (addOf S a S.objs[a] n w, 0) := by
      unfold setOf; rw [if_neg (by simp [hask]), obAt_eq ha, if_neg hp]; simp
    have hnl : S.objs[a].names.length < 12 := by rw [h.names]; have := onces_len ns; omega
    have hsh := h.shape
    have hwk := h.walk
    rw [e]
    have c1 : ¬ (S.objs[a].shape = -1 ∨ 12 ≤ S.objs[a].names.length) := by omega
    by_cases hbl : 0 ≤ belowOf S.shapes S.objs[a].shape n
    · have es : stepSh S.shapes S.objs[a] n = (S.shapes, belowOf S.shapes S.objs[a].shape n) := by unfold stepSh; rw [if_neg c1, if_pos hbl]
      refine ⟨⟨by simpa [addOf] using ha, ?_, ?_, ?_, ?_⟩, ⟨[], by simp [addOf, es], by simp, fun _ => rfl⟩, rfl, by simp [addOf], fun b hb => by simp [addOf, List.getElem?_set_ne (Ne.symm hb)]⟩
      · simp only [addOf, List.getElem_set_self, addOb, e2, h.names]
      · simp only [addOf, List.getElem_set_self, addOb]; exact h.frozen
      · simp only [addOf, List.getElem_set_self, addOb, e2, es, walk_append, hwk, Option.bind_some, if_pos hbl]
      · simp only [addOf, List.getElem_set_self, addOb, es]; exact hbl
    · have hr := (hroom.resolve_left hm).resolve_right hbl
      have es : stepSh S.shapes S.objs[a] n = (S.shapes ++ [⟨S.objs[a].shape, S.objs[a].names ++ [n]⟩], (S.shapes.length : Int)) := by unfold stepSh; rw [if_neg c1, if_neg hbl, if_neg (by omega)]
      have e3 : belowOf (S.shapes ++ [⟨S.objs[a].shape, S.objs[a].names ++ [n]⟩]) S.objs[a].shape n = S.shapes.length := posBy_snoc _ _ _ hbl (by simp [lastName_snoc])
      refine ⟨⟨by simpa [addOf] using ha, ?_, ?_, ?_, ?_⟩, ⟨[⟨S.objs[a].shape, S.objs[a].names ++ [n]⟩], by simp [addOf, es], by simp, fun hh => ?_⟩, rfl, by simp [addOf], fun b hb => by simp [addOf, List.getElem?_set_ne (Ne.symm hb)]⟩
      · simp only [addOf, List.getElem_set_self, addOb, e2, h.names]
      · simp only [addOf, List.getElem_set_self, addOb]; exact h.frozen
      · simp only [addOf, List.getElem_set_self, addOb, e2, es]
        rw [walk_append, walk_mono _ _ hwk, Option.bind_some, e3, if_pos (by omega)]
      · simp only [addOf, List.getElem_set_self, addOb, es]; omega
      · rcases hh with hh | hh
        · exact absurd hh hm
        · exact absurd hh hbl

/-- It keeps what another object got. -/
theorem Got.other {S S' : Sp} {a : Nat} {ns : List ByteArray} {m : List Sh} (h : Got S a ns) (hs : S'.shapes = S.shapes ++ m) (hl : S'.objs.length = S.objs.length) (ho : S'.objs[a]? = S.objs[a]?) : Got S' a ns := by
  have ha := h.lt
  have ha' : a < S'.objs.length := by omega
  have e : S'.objs[a] = S.objs[a] := by
    rw [List.getElem?_eq_getElem ha', List.getElem?_eq_getElem ha] at ho
    exact Option.some.inj ho
  exact ⟨ha', by rw [e]; exact h.names, by rw [e]; exact h.frozen, by rw [e, hs]; exact walk_mono _ _ h.walk, by rw [e]; exact h.shape⟩

/-- The next name of another object's way is there. -/
theorem Got.follow {S : Sp} {a b : Nat} {ns : List ByteArray} {i : Nat} (ha : Got S a ns) (hb : Got S b (ns.take i)) (hi : i < ns.length) :
    ns[i] ∈ onces (ns.take i) ∨ 0 ≤ belowOf S.shapes (S.objs[b]'hb.lt).shape ns[i] := by
  by_cases hm : ns[i] ∈ onces (ns.take i)
  · exact .inl hm
  · refine .inr ?_
    have e1 : ns.take (i + 1) = ns.take i ++ [ns[i]] := by rw [List.take_add_one, List.getElem?_eq_getElem hi]; rfl
    have e2 : onces (ns.take (i + 1)) = onces (ns.take i) ++ [ns[i]] := by rw [e1, onces_snoc, once_out hm]
    obtain ⟨r, hr⟩ := onces_prefix (ns.take (i + 1)) (ns.drop (i + 1))
    rw [List.take_append_drop] at hr
    have hw := ha.walk
    rw [hr] at hw
    obtain ⟨r', h1⟩ := walk_prefix _ hw
    rw [e2, walk_append, hb.walk, Option.bind_some] at h1
    split at h1
    · assumption
    · cases h1
end Go.Proofs.Ythcndkpkkaphoaa

/- ShapeAlike: objects that got the same names in the same order have the same shape. -/
namespace Go.Proofs.Ythcndkpkkaphoaa
set_option linter.all false
open Go.Vc Go.Proofs
set_option linter.unusedSimpArgs false
set_option maxRecDepth 100000
set_option maxHeartbeats 4000000
attribute [local irreducible] CallW EqK

/-- The names that an order asks for. -/
def namesOf (order : List Int) : List ByteArray := order.map nameOf
theorem namesOf_at {order : List Int} {i : Nat} (hi : i < order.length) : (namesOf order)[i]'(by simpa [namesOf] using hi) = nameOf order[i] := by simp [namesOf]
theorem nameOf_named (x : Int) : namedB (nameOf x) = true := by
  rw [nameOf_eq]
  have h : ∀ n ∈ lnames, namedB n = true := by decide
  exact h _ (List.getElem_mem _)

theorem got_new {S : Sp} {N : Nat} (hwf : WF S N) (hp : 0 < S.shapes.length) (h : S.objs.length < 100) : ∃ S1, makeOf S = (S1, (S.objs.length : Int), 0) ∧ S1.shapes = S.shapes ∧ S1.objs = S.objs ++ [⟨0, [], [], false⟩] ∧ Got S1 S.objs.length [] := by
  have hr : realB S = true := by simp [realB]; omega
  refine ⟨⟨S.shapes, S.objs ++ [⟨0, [], [], false⟩]⟩, by unfold makeOf; rw [if_neg (by simp [hr]), if_neg (by omega)], rfl, rfl, ⟨by simp, ?_, ?_, ?_, ?_⟩⟩
  · simp only [List.getElem_concat_length]; rfl
  · simp only [List.getElem_concat_length]
  · simp only [List.getElem_concat_length]; rfl
  · simp only [List.getElem_concat_length]; omega
theorem make_full {S : Sp} (hp : 0 < S.shapes.length) (h : ¬ S.objs.length < 100) : makeOf S = (S, 0, 9) := by
  have hr : realB S = true := by simp [realB]; omega
  unfold makeOf; rw [if_neg (by simp [hr]), if_pos (by omega)]

/- cabochon/cabochonlaw20.ShapeAlike -/
theorem alike_ok (ex ex2 : Bool) (l : List Deed) (order : List Int) : Meets Try.prog 5 [] (.cons (.imm 4 (dDeeds l) ex) (.cons (.imm 1 (dInts order) ex2) .nil)) fun av X κ => av = .val (.bool true) := by
  obtain ⟨hwf, hpos⟩ := playedOf_wf l
  by_cases hsz : order.length ≤ 12 ∧ l.length ≤ 30
  · obtain ⟨hsz1, hsz2⟩ := hsz
    have z1 : ¬ (12 : Int) < order.length := by omega
    have z2 : ¬ (30 : Int) < l.length := by omega
    refine Meets.of_vs tabOk Try.func5 (body := ?_) ?_ (by kernel_rfl) Try.ntmps5 (rs := [.tmp 4]) (by kernel_rfl) rfl (by simp [AV.len]) (by simp only [envOf]; exact rfl) ?_
    rotate_left
    · rfl
    intro w0 I0 F0 hF
    repeat first
      | refine VS.seq ?_
      | refine VS.skip ?_
      | (refine VS.keepAt 0 [0, 1] ?_; generalize hK : VS _ _ _ = KK; (try simp); (try subst hK); refine VS.region tabOk (id := 0) [] (by kernel_rfl) ?_; generalize hK : VS _ _ _ = KK; simp (maxSteps := 1000000) [hF, z1, z2]; (try subst hK); try (refine VS.keep [0, 1] ?_; generalize hK : VS _ _ _ = KK; simp; (try subst hK)))
      | (refine VS.keepAt 1 [0, 1] ?_; generalize hK : VS _ _ _ = KK; (try simp); (try subst hK); refine VS.region tabOk (id := 1) [(3, 26)] (by kernel_rfl) ?_; generalize hK : VS _ _ _ = KK; simp (maxSteps := 1000000) [hF, z1, z2]; (try subst hK); try (refine VS.keep [0, 1, 30] ?_; generalize hK : VS _ _ _ = KK; simp; (try subst hK)))
      | (refine VS.keepAt 3 [0, 1] ?_; generalize hK : VS _ _ _ = KK; (try simp); (try subst hK); refine VS.region tabOk (id := 3) [] (by kernel_rfl) ?_; generalize hK : VS _ _ _ = KK; simp (maxSteps := 1000000) [hF, z1, z2]; (try subst hK); try (refine VS.keep [1, 5] ?_; generalize hK : VS _ _ _ = KK; simp; (try subst hK)))
      | (refine VS.cond ?_; generalize hK1 : VS _ _ _ = KK1; generalize hK2 : VS _ _ _ = KK2; simp (maxSteps := 1000000) [hF, z1, z2]; (try subst hK1); (try subst hK2))
    refine (played_ok ex l).call [] (by simp) (by simp (maxSteps := 1000000) [hF]) (by simp (maxSteps := 1000000) [hF]) (by simp (maxSteps := 1000000) [hF]) ?_
    rintro av X κ ⟨rfl, rfl, rfl⟩
    generalize hK : VS _ _ _ = KK; simp (maxSteps := 1000000) [hF]; (try subst hK)
    generalize playedOf l = S at *
    repeat first
      | refine VS.seq ?_
      | (refine VS.keepAt 4 [1, 5] ?_; generalize hK : VS _ _ _ = KK; (try simp); (try subst hK); refine VS.region tabOk (id := 4) [] (by kernel_rfl) ?_; generalize hK : VS _ _ _ = KK; simp (maxSteps := 1000000) [hF]; (try subst hK); try (refine VS.keep [1, 5, 6, 7] ?_; generalize hK : VS _ _ _ = KK; simp; (try subst hK)))
    by_cases hA : S.objs.length < 100
    · obtain ⟨S1, hm1, hs1, ho1, hg1⟩ := got_new hwf hpos hA
      have hwf1 : WF S1 400 := by have := makeOf_wf hwf hpos; rwa [hm1] at this
      have hpos1 : 0 < S1.shapes.length := by rw [hs1]; exact hpos
      refine (make_ok S).call [(0, [])] (by simp) (by simp (maxSteps := 1000000) [hF, dSp, hm1]) (by simp (maxSteps := 1000000) [hF, dSp, hm1]) (by simp (maxSteps := 1000000) [hF, dSp, hm1]) ?_
      rintro av X κ ⟨rfl, rfl, rfl⟩
      generalize hK : VS _ _ _ = KK; simp (maxSteps := 1000000) [hF, dSp, hm1]; (try subst hK)
      repeat first
        | refine VS.seq ?_
        | (refine VS.keepAt 5 [1, 5, 6, 7] ?_; generalize hK : VS _ _ _ = KK; (try simp); (try subst hK); refine VS.region tabOk (id := 5) [] (by kernel_rfl) ?_; generalize hK : VS _ _ _ = KK; simp (maxSteps := 1000000) [hF]; (try subst hK); try (refine VS.keep [1, 5, 6, 7, 8, 9] ?_; generalize hK : VS _ _ _ = KK; simp; (try subst hK)))
      by_cases hB : S1.objs.length < 100
      · obtain ⟨S2, hm2, hs2, ho2, hg2⟩ := got_new hwf1 hpos1 hB
        have hwf2 : WF S2 400 := by have := makeOf_wf hwf1 hpos1; rwa [hm2] at this
        have hpos2 : 0 < S2.shapes.length := by rw [hs2]; exact hpos1
        have hg1' : Got S2 S.objs.length [] := by
          have hlt := hg1.lt
          refine ⟨by rw [ho2]; simp; omega, ?_, ?_, ?_, ?_⟩
          · simp only [ho2, List.getElem_append_left hlt]; exact hg1.names
          · simp only [ho2, List.getElem_append_left hlt]; exact hg1.frozen
          · simp only [ho2, List.getElem_append_left hlt, hs2]; exact hg1.walk
          · simp only [ho2, List.getElem_append_left hlt]; exact hg1.shape
        have hab : S1.objs.length ≠ S.objs.length := by rw [ho1]; simp
        refine (make_ok S1).call [(0, [])] (by simp) (by simp (maxSteps := 1000000) [hF, dSp, hm2]) (by simp (maxSteps := 1000000) [hF, dSp, hm2]) (by simp (maxSteps := 1000000) [hF, dSp, hm2]) ?_
        rintro av X κ ⟨rfl, rfl, rfl⟩
        generalize hK : VS _ _ _ = KK; simp (maxSteps := 1000000) [hF, dSp, hm2]; (try subst hK)
        obtain ⟨a, ha⟩ : ∃ a, a = S.objs.length := ⟨_, rfl⟩
        obtain ⟨b, hb⟩ : ∃ b, b = S1.objs.length := ⟨_, rfl⟩
        rw [← ha] at hab hg1'
        rw [← hb] at hab hg2
        rw [← ha, ← hb]
        by_cases h180 : S2.shapes.length ≤ 180
        · have e180 : ¬ (180 : Int) < shapesOf S2 := by simp only [shapesOf]; omega
          repeat first
            | refine VS.seq ?_
            | (refine VS.keepAt 6 [1, 5, 6, 7, 8, 9] ?_; generalize hK : VS _ _ _ = KK; (try simp); (try subst hK); refine VS.region tabOk (id := 6) [(2, 46), (6, 50)] (by kernel_rfl) ?_; generalize hK : VS _ _ _ = KK; simp (maxSteps := 1000000) [hF]; (try subst hK); try (refine VS.keep [1, 5, 6, 8, 54] ?_; generalize hK : VS _ _ _ = KK; simp; (try subst hK)))
          refine (shapes_ok S2).call [(0, [])] (by simp) (by simp (maxSteps := 1000000) [hF, dSp, e180]) (by simp (maxSteps := 1000000) [hF, dSp, e180]) (by simp (maxSteps := 1000000) [hF, dSp, e180]) ?_
          rintro av X κ ⟨rfl, rfl, rfl⟩
          generalize hK : VS _ _ _ = KK; simp (maxSteps := 1000000) [hF, dSp, e180]; (try subst hK)
          repeat first
            | refine VS.seq ?_
            | refine VS.skip ?_
            | (refine VS.keepAt 8 [1, 5, 6, 8] ?_; generalize hK : VS _ _ _ = KK; (try simp); (try subst hK); refine VS.region tabOk (id := 8) [] (by kernel_rfl) ?_; generalize hK : VS _ _ _ = KK; simp (maxSteps := 1000000) [hF]; (try subst hK); try (refine VS.keep [1, 5, 6, 8, 10] ?_; generalize hK : VS _ _ _ = KK; simp; (try subst hK)))
            | (refine VS.cond ?_; generalize hK1 : VS _ _ _ = KK1; generalize hK2 : VS _ _ _ = KK2; simp (maxSteps := 1000000) [hF]; (try subst hK1); (try subst hK2))
          refine (lnames_ok).call [] (by simp) (by simp (maxSteps := 1000000) [hF]) (by simp (maxSteps := 1000000) [hF]) (by simp (maxSteps := 1000000) [hF]) ?_
          rintro av X κ ⟨rfl, rfl, rfl⟩
          generalize hK : VS _ _ _ = KK; simp (maxSteps := 1000000) [hF]; (try subst hK)
          repeat first
            | refine VS.seq ?_
            | refine VS.block ?_
            | (refine VS.keepAt 9 [1, 5, 6, 8, 10] ?_; generalize hK : VS _ _ _ = KK; (try simp); (try subst hK); refine VS.region tabOk (id := 9) [] (by kernel_rfl) ?_; generalize hK : VS _ _ _ = KK; simp (maxSteps := 1000000) [hF]; (try subst hK); try (refine VS.keep [1, 5, 6, 8, 10, 11] ?_; generalize hK : VS _ _ _ = KK; simp; (try subst hK)))
          have hnl : (namesOf order).length = order.length := by simp [namesOf]
          have w15 : IntKind.u64.wrap 15 = 15 := by decide
          have hl15 : lnames.length = 15 := rfl
          refine VS.rounds (fun m st => ∃ (i : Nat) (Si : Sp), i + m = order.length ∧ WF Si (400 + i) ∧ 0 < Si.shapes.length ∧ Si.shapes.length ≤ 180 + i ∧ Got Si a ((namesOf order).take i) ∧ Got Si b [] ∧
            st = ⟨[(1, .imm 1 (dInts order) ex2), (5, .ptr 0 [.d]), (6, avInt a), (8, avInt b), (10, .sub 1 [] 0 15 true), (11, avInt i)], [dSp Si, .sl true () 1 (dStrs lnames)], [], []⟩)
            ⟨order.length, 0, S2, by omega, hwf2, hpos2, by omega, hg1', hg2, by simp [dSp]⟩ ?_
          rintro m st ⟨i, Si, him, hwfi, hposi, hszi, hga, hgb, rfl⟩
          repeat first
            | refine VS.seq ?_
            | (refine VS.keepAt 10 [1, 5, 6, 8, 10, 11] ?_; generalize hK : VS _ _ _ = KK; (try simp); (try subst hK); refine VS.region tabOk (id := 10) [] (by kernel_rfl) ?_; generalize hK : VS _ _ _ = KK; simp (maxSteps := 1000000) [hF]; (try subst hK); try (refine VS.keep [1, 5, 6, 8, 10, 11, 60] ?_; generalize hK : VS _ _ _ = KK; simp; (try subst hK)))
            | (refine VS.cond ?_; generalize hK1 : VS _ _ _ = KK1; generalize hK2 : VS _ _ _ = KK2; simp (maxSteps := 1000000) [hF]; (try subst hK1); (try subst hK2))
          refine ⟨fun hlt => ?_, fun hge => ?_⟩
          · have hi : i < order.length := by omega
            have hi' : i < (namesOf order).length := by omega
            have hni := dInts_nth hi
            have p1 := partOf_nonneg order[i] (n := 15)
            have p2 := partOf_lt order[i] (n := 15) (by omega)
            have p3 : (partOf order[i] 15).toNat < 15 := by omega
            have pw : IntKind.i64.wrap (partOf order[i] 15) = partOf order[i] 15 := IntWalk.i64_in _ (by omega)
            have hnth := nameOf_nth order[i]
            have htk : (namesOf order).take (i + 1) = (namesOf order).take i ++ [nameOf order[i]] := by
              rw [List.take_add_one, List.getElem?_eq_getElem hi', namesOf_at hi]; rfl
            obtain ⟨k1, ⟨ms, k2, k3, _⟩, k4, k5, k6⟩ := hga.set hposi (nameOf_named order[i]) i (by simp; omega) (.inr (.inl (by omega)))
            have kwf := setOf_wf hwfi a (nameOf order[i]) i
            have kpos := setOf_pos hposi a (nameOf order[i]) i
            have kb := hgb.other k2 k5 (k6 b hab)
            simp only [partOf] at p1 p2 p3 pw hnth
            repeat first
              | refine VS.seq ?_
              | refine VS.skip ?_
              | refine VS.block ?_
              | (refine VS.keepAt 12 [1, 5, 6, 8, 10, 11] ?_; generalize hK : VS _ _ _ = KK; (try simp); (try subst hK); refine VS.region tabOk (id := 12) [] (by kernel_rfl) ?_; generalize hK : VS _ _ _ = KK; simp (maxSteps := 1000000) [hF, hi, hni, p1, p2, p3, pw, hnth, w15, hl15]; (try subst hK); try (refine VS.keep [1, 5, 6, 8, 10, 11, 12] ?_; generalize hK : VS _ _ _ = KK; simp; (try subst hK)))
              | (refine VS.keepAt 13 [1, 5, 6, 8, 10, 11, 12] ?_; generalize hK : VS _ _ _ = KK; (try simp); (try subst hK); refine VS.region tabOk (id := 13) [] (by kernel_rfl) ?_; generalize hK : VS _ _ _ = KK; simp (maxSteps := 1000000) [hF, hi, hni, p1, p2, p3, pw, hnth, w15, hl15]; (try subst hK); try (refine VS.keep [1, 5, 6, 8, 10, 11] ?_; generalize hK : VS _ _ _ = KK; simp; (try subst hK)))
            refine (set_ok Si hwfi (by omega) a (nameOf order[i]) i).call [(0, [])] (by simp) (by simp (maxSteps := 1000000) [hF, dSp]) (by simp (maxSteps := 1000000) [hF, dSp]) (by simp (maxSteps := 1000000) [hF, dSp]) ?_
            rintro av X κ ⟨rfl, rfl, rfl⟩
            generalize hK : VS _ _ _ = KK; simp (maxSteps := 1000000) [hF, dSp]; (try subst hK)
            repeat first
              | refine VS.nil ?_
              | refine blockN_normal ?_
              | refine loopN_normal ?_
              | (refine VS.keepAt 11 [1, 5, 6, 8, 10, 11] ?_; generalize hK : VS _ _ _ = KK; (try simp); (try subst hK); refine VS.region tabOk (id := 11) [] (by kernel_rfl) ?_; generalize hK : VS _ _ _ = KK; simp (maxSteps := 1000000) [hF]; (try subst hK); try (refine VS.keep [1, 5, 6, 8, 10, 11] ?_; generalize hK : VS _ _ _ = KK; simp; (try subst hK)))
            refine nextK.of [1, 5, 6, 8, 10, 11] [0, 1] (m - 1) (by omega) (by simp [hF]) ?_
            refine ⟨i + 1, _, by omega, kwf, kpos, ?_, by rw [htk]; exact k1, kb, ?_⟩
            · rw [k2]; simp; omega
            · simp [dSp]
              exact IntWalk.i64_in _ (by omega)
          · have hio : order.length ≤ i := by omega
            rw [List.take_of_length_le (by omega)] at hga
            repeat first
              | refine VS.seq ?_
              | refine VS.block ?_
              | refine VS.exit ?_
              | (refine VS.keepAt 14 [1, 5, 6, 8, 10] ?_; generalize hK : VS _ _ _ = KK; (try simp); (try subst hK); refine VS.region tabOk (id := 14) [] (by kernel_rfl) ?_; generalize hK : VS _ _ _ = KK; simp (maxSteps := 1000000) [hF]; (try subst hK); try (refine VS.keep [1, 5, 6, 8, 10, 13] ?_; generalize hK : VS _ _ _ = KK; simp; (try subst hK)))
            refine VS.rounds (fun m st => ∃ (k : Nat) (Sk : Sp), k + m = order.length ∧ WF Sk (412 + k) ∧ 0 < Sk.shapes.length ∧ Got Sk a (namesOf order) ∧ Got Sk b ((namesOf order).take k) ∧
              st = ⟨[(1, .imm 1 (dInts order) ex2), (5, .ptr 0 [.d]), (6, avInt a), (8, avInt b), (10, .sub 1 [] 0 15 true), (13, avInt k)], [dSp Sk, .sl true () 1 (dStrs lnames)], [], []⟩)
              ⟨order.length, 0, Si, by omega, hwfi.mono (by omega), hposi, hga, hgb, by simp [dSp]⟩ ?_
            rintro m2 st ⟨k, Sk, hkm, hwfk, hposk, hka, hkb, rfl⟩
            repeat first
              | refine VS.seq ?_
              | (refine VS.keepAt 15 [1, 5, 6, 8, 10, 13] ?_; generalize hK : VS _ _ _ = KK; (try simp); (try subst hK); refine VS.region tabOk (id := 15) [] (by kernel_rfl) ?_; generalize hK : VS _ _ _ = KK; simp (maxSteps := 1000000) [hF]; (try subst hK); try (refine VS.keep [1, 5, 6, 8, 10, 13, 81] ?_; generalize hK : VS _ _ _ = KK; simp; (try subst hK)))
              | (refine VS.cond ?_; generalize hK1 : VS _ _ _ = KK1; generalize hK2 : VS _ _ _ = KK2; simp (maxSteps := 1000000) [hF]; (try subst hK1); (try subst hK2))
            refine ⟨fun hlt2 => ?_, fun hge2 => ?_⟩
            · have hi : k < order.length := by omega
              have hi' : k < (namesOf order).length := by omega
              have hni := dInts_nth hi
              have p1 := partOf_nonneg order[k] (n := 15)
              have p2 := partOf_lt order[k] (n := 15) (by omega)
              have p3 : (partOf order[k] 15).toNat < 15 := by omega
              have pw : IntKind.i64.wrap (partOf order[k] 15) = partOf order[k] 15 := IntWalk.i64_in _ (by omega)
              have hnth := nameOf_nth order[k]
              have htk : (namesOf order).take (k + 1) = (namesOf order).take k ++ [nameOf order[k]] := by
                rw [List.take_add_one, List.getElem?_eq_getElem hi', namesOf_at hi]; rfl
              have hfo := hka.follow hkb hi'
              rw [namesOf_at hi] at hfo
              simp only [partOf] at p1 p2 p3 pw hnth
              repeat first
                | refine VS.seq ?_
                | refine VS.skip ?_
                | refine VS.block ?_
                | (refine VS.keepAt 17 [1, 5, 6, 8, 10, 13] ?_; generalize hK : VS _ _ _ = KK; (try simp); (try subst hK); refine VS.region tabOk (id := 17) [] (by kernel_rfl) ?_; generalize hK : VS _ _ _ = KK; simp (maxSteps := 1000000) [hF, hi, hni, p1, p2, p3, pw, hnth, w15, hl15]; (try subst hK); try (refine VS.keep [1, 5, 6, 8, 10, 13, 14] ?_; generalize hK : VS _ _ _ = KK; simp; (try subst hK)))
                | (refine VS.keepAt 18 [1, 5, 6, 8, 10, 13, 14] ?_; generalize hK : VS _ _ _ = KK; (try simp); (try subst hK); refine VS.region tabOk (id := 18) [] (by kernel_rfl) ?_; generalize hK : VS _ _ _ = KK; simp (maxSteps := 1000000) [hF, hi, hni, p1, p2, p3, pw, hnth, w15, hl15]; (try subst hK); try (refine VS.keep [1, 5, 6, 8, 10, 13] ?_; generalize hK : VS _ _ _ = KK; simp; (try subst hK)))
              obtain ⟨k1, ⟨ms, k2, k3, k3'⟩, k4, k5, k6⟩ := hkb.set hposk (nameOf_named order[k]) (IntKind.i64.wrap (-(k : Int))) (by simp; omega) (hfo.imp id .inr)
              have kwf := setOf_wf hwfk b (nameOf order[k]) (IntKind.i64.wrap (-(k : Int)))
              have kpos := setOf_pos hposk b (nameOf order[k]) (IntKind.i64.wrap (-(k : Int)))
              have ka := hka.other k2 k5 (k6 a (Ne.symm hab))
              refine (set_ok Sk hwfk (by omega) b (nameOf order[k]) (IntKind.i64.wrap (-(k : Int)))).call [(0, [])] (by simp) (by simp (maxSteps := 1000000) [hF, dSp]) (by simp (maxSteps := 1000000) [hF, dSp]) (by simp (maxSteps := 1000000) [hF, dSp]) ?_
              rintro av X κ ⟨rfl, rfl, rfl⟩
              generalize hK : VS _ _ _ = KK; simp (maxSteps := 1000000) [hF, dSp]; (try subst hK)
              repeat first
                | refine VS.nil ?_
                | refine blockN_normal ?_
                | refine loopN_normal ?_
                | (refine VS.keepAt 16 [1, 5, 6, 8, 10, 13] ?_; generalize hK : VS _ _ _ = KK; (try simp); (try subst hK); refine VS.region tabOk (id := 16) [] (by kernel_rfl) ?_; generalize hK : VS _ _ _ = KK; simp (maxSteps := 1000000) [hF]; (try subst hK); try (refine VS.keep [1, 5, 6, 8, 10, 13] ?_; generalize hK : VS _ _ _ = KK; simp; (try subst hK)))
              refine nextK.of [1, 5, 6, 8, 10, 13] [0, 1] (m2 - 1) (by omega) (by simp [hF]) ?_
              refine ⟨k + 1, _, by omega, kwf, kpos, ka, by rw [htk]; exact k1, ?_⟩
              simp [dSp]
              exact IntWalk.i64_in _ (by omega)
            · rw [List.take_of_length_le (by omega)] at hkb
              have la := hka.lt
              have lb := hkb.lt
              have ba : hasB Sk a = true := by simp [hasB]; omega
              have bb : hasB Sk b = true := by simp [hasB]; omega
              have sha : shapeOf Sk a = (Sk.objs[a].shape, 0) := by simp [shapeOf, ba, obAt_eq la]
              have shb : shapeOf Sk b = (Sk.objs[a].shape, 0) := by
                have e : Sk.objs[b].shape = Sk.objs[a].shape := Option.some.inj (hkb.walk.symm.trans hka.walk)
                simp [shapeOf, bb, obAt_eq lb, e]
              have hsh := hka.shape
              have ena : (obAt Sk a).names = onces (namesOf order) := by rw [obAt_eq la]; exact hka.names
              have enb : (obAt Sk b).names = onces (namesOf order) := by rw [obAt_eq lb]; exact hkb.names
              have hol := onces_len (namesOf order)
              repeat first
                | refine VS.seq ?_
                | refine VS.exit ?_
                | (refine VS.keepAt 19 [5, 6, 8] ?_; generalize hK : VS _ _ _ = KK; (try simp); (try subst hK); refine VS.region tabOk (id := 19) [] (by kernel_rfl) ?_; generalize hK : VS _ _ _ = KK; simp (maxSteps := 1000000) [hF]; (try subst hK); try (refine VS.keep [5, 6, 8, 15] ?_; generalize hK : VS _ _ _ = KK; simp; (try subst hK)))
              refine (shape_ok Sk a).call [(0, [])] (by simp) (by simp (maxSteps := 1000000) [hF, dSp, sha]) (by simp (maxSteps := 1000000) [hF, dSp, sha]) (by simp (maxSteps := 1000000) [hF, dSp, sha]) ?_
              rintro av X κ ⟨rfl, rfl, rfl⟩
              generalize hK : VS _ _ _ = KK; simp (maxSteps := 1000000) [hF, dSp, sha]; (try subst hK)
              repeat first
                | refine VS.seq ?_
                | (refine VS.keepAt 20 [5, 6, 8, 15] ?_; generalize hK : VS _ _ _ = KK; (try simp); (try subst hK); refine VS.region tabOk (id := 20) [] (by kernel_rfl) ?_; generalize hK : VS _ _ _ = KK; simp (maxSteps := 1000000) [hF]; (try subst hK); try (refine VS.keep [5, 6, 8, 15, 17] ?_; generalize hK : VS _ _ _ = KK; simp; (try subst hK)))
              refine (shape_ok Sk b).call [(0, [])] (by simp) (by simp (maxSteps := 1000000) [hF, dSp, shb]) (by simp (maxSteps := 1000000) [hF, dSp, shb]) (by simp (maxSteps := 1000000) [hF, dSp, shb]) ?_
              rintro av X κ ⟨rfl, rfl, rfl⟩
              generalize hK : VS _ _ _ = KK; simp (maxSteps := 1000000) [hF, dSp, shb]; (try subst hK)
              repeat first
                | refine VS.seq ?_
                | (refine VS.keepAt 21 [5, 6, 8, 15, 17] ?_; generalize hK : VS _ _ _ = KK; (try simp); (try subst hK); refine VS.region tabOk (id := 21) [] (by kernel_rfl) ?_; generalize hK : VS _ _ _ = KK; simp (maxSteps := 1000000) [hF]; (try subst hK); try (refine VS.keep [5, 8, 15, 17, 19] ?_; generalize hK : VS _ _ _ = KK; simp; (try subst hK)))
              refine (names1_yes Sk hwfk (by omega) a ba).call [(0, [])] (by simp) (by simp (maxSteps := 1000000) [hF, dSp, ena]) (by simp (maxSteps := 1000000) [hF, dSp, ena]) (by simp (maxSteps := 1000000) [hF, dSp, ena]) ?_
              rintro av X κ ⟨rfl, rfl, rfl⟩
              generalize hK : VS _ _ _ = KK; simp (maxSteps := 1000000) [hF, dSp, ena]; (try subst hK)
              repeat first
                | refine VS.seq ?_
                | (refine VS.keepAt 22 [5, 8, 15, 17, 19] ?_; generalize hK : VS _ _ _ = KK; (try simp); (try subst hK); refine VS.region tabOk (id := 22) [] (by kernel_rfl) ?_; generalize hK : VS _ _ _ = KK; simp (maxSteps := 1000000) [hF]; (try subst hK); try (refine VS.keep [15, 17, 19, 21] ?_; generalize hK : VS _ _ _ = KK; simp; (try subst hK)))
              refine (names1_yes Sk hwfk (by omega) b bb).call [(0, [])] (by simp) (by simp (maxSteps := 1000000) [hF, dSp, enb]) (by simp (maxSteps := 1000000) [hF, dSp, enb]) (by simp (maxSteps := 1000000) [hF, dSp, enb]) ?_
              rintro av X κ ⟨rfl, rfl, rfl⟩
              generalize hK : VS _ _ _ = KK; simp (maxSteps := 1000000) [hF, dSp, enb]; (try subst hK)
              repeat first
                | refine VS.seq ?_
                | (refine VS.keepAt 23 [15, 17, 19, 21] ?_; generalize hK : VS _ _ _ = KK; (try simp); (try subst hK); refine VS.region tabOk (id := 23) [(3, 127), (7, 131), (12, 136)] (by kernel_rfl) ?_; generalize hK : VS _ _ _ = KK; simp (maxSteps := 1000000) [hF, hsh]; (try subst hK); try (refine VS.keep [4] ?_; generalize hK : VS _ _ _ = KK; simp; (try subst hK)))
              refine (same_ok true true false false (onces (namesOf order)) (onces (namesOf order)) (by omega)).call [(2, []), (3, [])] (by simp) (by simp (maxSteps := 1000000) [hF, hsh]) (by simp (maxSteps := 1000000) [hF, hsh]) (by simp (maxSteps := 1000000) [hF, hsh]) ?_
              rintro av X κ ⟨rfl, rfl, rfl⟩
              generalize hK : VS _ _ _ = KK; simp (maxSteps := 1000000) [hF, hsh]; (try subst hK)
              refine (sane_ok).call [] (by simp) (by simp (maxSteps := 1000000) [hF]) (by simp (maxSteps := 1000000) [hF]) (by simp (maxSteps := 1000000) [hF]) ?_
              rintro av X κ ⟨rfl, rfl, rfl⟩
              generalize hK : VS _ _ _ = KK; simp (maxSteps := 1000000) [hF]; (try subst hK)
              try refine VS.ret ?_
              repeat first | refine blockN_ret ?_ | refine loopN_ret ?_
              refine endK.of [4] [] [] (by simp [hF]) (by simp [covers, mpre]) ?_
              simp [hF, retK]
        · have e180 : (180 : Int) < shapesOf S2 := by simp only [shapesOf]; omega
          repeat first
            | refine VS.seq ?_
            | (refine VS.keepAt 6 [1, 5, 6, 7, 8, 9] ?_; generalize hK : VS _ _ _ = KK; (try simp); (try subst hK); refine VS.region tabOk (id := 6) [(2, 46), (6, 50)] (by kernel_rfl) ?_; generalize hK : VS _ _ _ = KK; simp (maxSteps := 1000000) [hF]; (try subst hK); try (refine VS.keep [1, 5, 6, 8, 54] ?_; generalize hK : VS _ _ _ = KK; simp; (try subst hK)))
          refine (shapes_ok S2).call [(0, [])] (by simp) (by simp (maxSteps := 1000000) [hF, dSp, e180]) (by simp (maxSteps := 1000000) [hF, dSp, e180]) (by simp (maxSteps := 1000000) [hF, dSp, e180]) ?_
          rintro av X κ ⟨rfl, rfl, rfl⟩
          generalize hK : VS _ _ _ = KK; simp (maxSteps := 1000000) [hF, dSp, e180]; (try subst hK)
          repeat first
            | refine VS.seq ?_
            | (refine VS.keepAt 7 [] ?_; generalize hK : VS _ _ _ = KK; (try simp); (try subst hK); refine VS.region tabOk (id := 7) [] (by kernel_rfl) ?_; generalize hK : VS _ _ _ = KK; simp (maxSteps := 1000000) [hF]; (try subst hK); try (refine VS.keep [4] ?_; generalize hK : VS _ _ _ = KK; simp; (try subst hK)))
            | (refine VS.cond ?_; generalize hK1 : VS _ _ _ = KK1; generalize hK2 : VS _ _ _ = KK2; simp (maxSteps := 1000000) [hF]; (try subst hK1); (try subst hK2))
          refine (sane_ok).call [] (by simp) (by simp (maxSteps := 1000000) [hF]) (by simp (maxSteps := 1000000) [hF]) (by simp (maxSteps := 1000000) [hF]) ?_
          rintro av X κ ⟨rfl, rfl, rfl⟩
          generalize hK : VS _ _ _ = KK; simp (maxSteps := 1000000) [hF]; (try subst hK)
          try refine VS.ret ?_
          repeat first | refine blockN_ret ?_ | refine loopN_ret ?_
          refine endK.of [4] [] [] (by simp [hF]) (by simp [covers, mpre]) ?_
          simp [hF, retK]
      · refine (make_ok S1).call [(0, [])] (by simp) (by simp (maxSteps := 1000000) [hF, dSp, make_full hpos1 hB]) (by simp (maxSteps := 1000000) [hF, dSp, make_full hpos1 hB]) (by simp (maxSteps := 1000000) [hF, dSp, make_full hpos1 hB]) ?_
        rintro av X κ ⟨rfl, rfl, rfl⟩
        generalize hK : VS _ _ _ = KK; simp (maxSteps := 1000000) [hF, dSp, make_full hpos1 hB]; (try subst hK)
        repeat first
          | refine VS.seq ?_
          | (refine VS.keepAt 6 [1, 5, 6, 7, 8, 9] ?_; generalize hK : VS _ _ _ = KK; (try simp); (try subst hK); refine VS.region tabOk (id := 6) [(2, 46), (6, 50)] (by kernel_rfl) ?_; generalize hK : VS _ _ _ = KK; simp (maxSteps := 1000000) [hF]; (try subst hK); try (refine VS.keep [1, 5, 6, 8, 54] ?_; generalize hK : VS _ _ _ = KK; simp; (try subst hK)))
          | (refine VS.keepAt 7 [] ?_; generalize hK : VS _ _ _ = KK; (try simp); (try subst hK); refine VS.region tabOk (id := 7) [] (by kernel_rfl) ?_; generalize hK : VS _ _ _ = KK; simp (maxSteps := 1000000) [hF]; (try subst hK); try (refine VS.keep [4] ?_; generalize hK : VS _ _ _ = KK; simp; (try subst hK)))
          | (refine VS.cond ?_; generalize hK1 : VS _ _ _ = KK1; generalize hK2 : VS _ _ _ = KK2; simp (maxSteps := 1000000) [hF]; (try subst hK1); (try subst hK2))
        refine (sane_ok).call [] (by simp) (by simp (maxSteps := 1000000) [hF]) (by simp (maxSteps := 1000000) [hF]) (by simp (maxSteps := 1000000) [hF]) ?_
        rintro av X κ ⟨rfl, rfl, rfl⟩
        generalize hK : VS _ _ _ = KK; simp (maxSteps := 1000000) [hF]; (try subst hK)
        try refine VS.ret ?_
        repeat first | refine blockN_ret ?_ | refine loopN_ret ?_
        refine endK.of [4] [] [] (by simp [hF]) (by simp [covers, mpre]) ?_
        simp [hF, retK]
    · refine (make_ok S).call [(0, [])] (by simp) (by simp (maxSteps := 1000000) [hF, dSp, make_full hpos hA]) (by simp (maxSteps := 1000000) [hF, dSp, make_full hpos hA]) (by simp (maxSteps := 1000000) [hF, dSp, make_full hpos hA]) ?_
      rintro av X κ ⟨rfl, rfl, rfl⟩
      generalize hK : VS _ _ _ = KK; simp (maxSteps := 1000000) [hF, dSp, make_full hpos hA]; (try subst hK)
      repeat first
        | refine VS.seq ?_
        | (refine VS.keepAt 5 [1, 5, 6, 7] ?_; generalize hK : VS _ _ _ = KK; (try simp); (try subst hK); refine VS.region tabOk (id := 5) [] (by kernel_rfl) ?_; generalize hK : VS _ _ _ = KK; simp (maxSteps := 1000000) [hF]; (try subst hK); try (refine VS.keep [1, 5, 6, 7, 8, 9] ?_; generalize hK : VS _ _ _ = KK; simp; (try subst hK)))
      refine (make_ok S).call [(0, [])] (by simp) (by simp (maxSteps := 1000000) [hF, dSp, make_full hpos hA]) (by simp (maxSteps := 1000000) [hF, dSp, make_full hpos hA]) (by simp (maxSteps := 1000000) [hF, dSp, make_full hpos hA]) ?_
      rintro av X κ ⟨rfl, rfl, rfl⟩
      generalize hK : VS _ _ _ = KK; simp (maxSteps := 1000000) [hF, dSp, make_full hpos hA]; (try subst hK)
      repeat first
        | refine VS.seq ?_
        | (refine VS.keepAt 6 [1, 5, 6, 7, 8, 9] ?_; generalize hK : VS _ _ _ = KK; (try simp); (try subst hK); refine VS.region tabOk (id := 6) [(2, 46), (6, 50)] (by kernel_rfl) ?_; generalize hK : VS _ _ _ = KK; simp (maxSteps := 1000000) [hF]; (try subst hK); try (refine VS.keep [1, 5, 6, 8, 54] ?_; generalize hK : VS _ _ _ = KK; simp; (try subst hK)))
        | (refine VS.keepAt 7 [] ?_; generalize hK : VS _ _ _ = KK; (try simp); (try subst hK); refine VS.region tabOk (id := 7) [] (by kernel_rfl) ?_; generalize hK : VS _ _ _ = KK; simp (maxSteps := 1000000) [hF]; (try subst hK); try (refine VS.keep [4] ?_; generalize hK : VS _ _ _ = KK; simp; (try subst hK)))
        | (refine VS.cond ?_; generalize hK1 : VS _ _ _ = KK1; generalize hK2 : VS _ _ _ = KK2; simp (maxSteps := 1000000) [hF]; (try subst hK1); (try subst hK2))
      refine (sane_ok).call [] (by simp) (by simp (maxSteps := 1000000) [hF]) (by simp (maxSteps := 1000000) [hF]) (by simp (maxSteps := 1000000) [hF]) ?_
      rintro av X κ ⟨rfl, rfl, rfl⟩
      generalize hK : VS _ _ _ = KK; simp (maxSteps := 1000000) [hF]; (try subst hK)
      try refine VS.ret ?_
      repeat first | refine blockN_ret ?_ | refine loopN_ret ?_
      refine endK.of [4] [] [] (by simp [hF]) (by simp [covers, mpre]) ?_
      simp [hF, retK]
  · by_cases h12 : (12 : Int) < order.length
    · refine Meets.of_vs tabOk Try.func5 (body := ?_) ?_ (by kernel_rfl) Try.ntmps5 (rs := [.tmp 4]) (by kernel_rfl) rfl (by simp [AV.len]) (by simp only [envOf]; exact rfl) ?_
      rotate_left
      · rfl
      intro w0 I0 F0 hF
      repeat first
        | refine VS.seq ?_
        | (refine VS.keepAt 0 [0, 1] ?_; generalize hK : VS _ _ _ = KK; (try simp); (try subst hK); refine VS.region tabOk (id := 0) [] (by kernel_rfl) ?_; generalize hK : VS _ _ _ = KK; simp (maxSteps := 1000000) [hF, h12]; (try subst hK); try (refine VS.keep [0, 1] ?_; generalize hK : VS _ _ _ = KK; simp; (try subst hK)))
        | (refine VS.keepAt 1 [0, 1] ?_; generalize hK : VS _ _ _ = KK; (try simp); (try subst hK); refine VS.region tabOk (id := 1) [(3, 26)] (by kernel_rfl) ?_; generalize hK : VS _ _ _ = KK; simp (maxSteps := 1000000) [hF, h12]; (try subst hK); try (refine VS.keep [0, 1, 30] ?_; generalize hK : VS _ _ _ = KK; simp; (try subst hK)))
        | (refine VS.keepAt 2 [] ?_; generalize hK : VS _ _ _ = KK; (try simp); (try subst hK); refine VS.region tabOk (id := 2) [] (by kernel_rfl) ?_; generalize hK : VS _ _ _ = KK; simp (maxSteps := 1000000) [hF, h12]; (try subst hK); try (refine VS.keep [4] ?_; generalize hK : VS _ _ _ = KK; simp; (try subst hK)))
        | (refine VS.cond ?_; generalize hK1 : VS _ _ _ = KK1; generalize hK2 : VS _ _ _ = KK2; simp (maxSteps := 1000000) [hF, h12]; (try subst hK1); (try subst hK2))
      refine (sane_ok).call [] (by simp) (by simp (maxSteps := 1000000) [hF]) (by simp (maxSteps := 1000000) [hF]) (by simp (maxSteps := 1000000) [hF]) ?_
      rintro av X κ ⟨rfl, rfl, rfl⟩
      generalize hK : VS _ _ _ = KK; simp (maxSteps := 1000000) [hF]; (try subst hK)
      try refine VS.ret ?_
      repeat first | refine blockN_ret ?_ | refine loopN_ret ?_
      refine endK.of [4] [] [] (by simp [hF]) (by simp [covers, mpre]) ?_
      simp [hF, retK]
    · have h30 : (30 : Int) < l.length := by omega
      refine Meets.of_vs tabOk Try.func5 (body := ?_) ?_ (by kernel_rfl) Try.ntmps5 (rs := [.tmp 4]) (by kernel_rfl) rfl (by simp [AV.len]) (by simp only [envOf]; exact rfl) ?_
      rotate_left
      · rfl
      intro w0 I0 F0 hF
      repeat first
        | refine VS.seq ?_
        | (refine VS.keepAt 0 [0, 1] ?_; generalize hK : VS _ _ _ = KK; (try simp); (try subst hK); refine VS.region tabOk (id := 0) [] (by kernel_rfl) ?_; generalize hK : VS _ _ _ = KK; simp (maxSteps := 1000000) [hF, h12, h30]; (try subst hK); try (refine VS.keep [0, 1] ?_; generalize hK : VS _ _ _ = KK; simp; (try subst hK)))
        | (refine VS.keepAt 1 [0, 1] ?_; generalize hK : VS _ _ _ = KK; (try simp); (try subst hK); refine VS.region tabOk (id := 1) [(3, 26)] (by kernel_rfl) ?_; generalize hK : VS _ _ _ = KK; simp (maxSteps := 1000000) [hF, h12, h30]; (try subst hK); try (refine VS.keep [0, 1, 30] ?_; generalize hK : VS _ _ _ = KK; simp; (try subst hK)))
        | (refine VS.keepAt 2 [] ?_; generalize hK : VS _ _ _ = KK; (try simp); (try subst hK); refine VS.region tabOk (id := 2) [] (by kernel_rfl) ?_; generalize hK : VS _ _ _ = KK; simp (maxSteps := 1000000) [hF, h12, h30]; (try subst hK); try (refine VS.keep [4] ?_; generalize hK : VS _ _ _ = KK; simp; (try subst hK)))
        | (refine VS.cond ?_; generalize hK1 : VS _ _ _ = KK1; generalize hK2 : VS _ _ _ = KK2; simp (maxSteps := 1000000) [hF, h12, h30]; (try subst hK1); (try subst hK2))
      refine (sane_ok).call [] (by simp) (by simp (maxSteps := 1000000) [hF]) (by simp (maxSteps := 1000000) [hF]) (by simp (maxSteps := 1000000) [hF]) ?_
      rintro av X κ ⟨rfl, rfl, rfl⟩
      generalize hK : VS _ _ _ = KK; simp (maxSteps := 1000000) [hF]; (try subst hK)
      try refine VS.ret ?_
      repeat first | refine blockN_ret ?_ | refine loopN_ret ?_
      refine endK.of [4] [] [] (by simp [hF]) (by simp [covers, mpre]) ?_
      simp [hF, retK]
end Go.Proofs.Ythcndkpkkaphoaa

/- From what a row's argument reads as to trees that cannot change. -/
namespace Go.Vc
set_option linter.all false
open T (hdr blk)

/-- The blocks that are there. -/
abbrev allB (w : World) : Nat → Prop := fun b => b < w.heap.size

/-- What a reading of a type shows: a tree that cannot change, of 'z' cells, with such a content. -/
def Reads (P : Program) (t : TypeId) (z : Nat) (good : D → Prop) : Prop :=
  ∀ (H : Type) (enc : TypeId × Value → H) (w : World) (fuel : Nat) (cs : List Value) (x : DataW H × List MemPlace), DataW.trod enc P w 0 (fun _ => true) true fuel t cs = some x →
    ∃ g : G, T.Holds w.heap (allB w) g ∧ g.free = true ∧ g.cells = cs ∧ g.width = z ∧ good g.erase

theorem reads_int {P : Program} {t : TypeId} {k : IntKind} (ht : P.underlying t = some (.int k)) : Reads P t 1 fun d => ∃ n, d = .val (.int k n) := fun H enc w fuel cs x h => by
  obtain ⟨n, rfl, _, _⟩ := DataW.trod_int ht h
  exact ⟨.val (.int k n), rfl, rfl, rfl, rfl, n, rfl⟩
theorem reads_str {P : Program} {t : TypeId} (ht : P.underlying t = some .string) : Reads P t 1 fun d => ∃ s, d = .val (.string s) := fun H enc w fuel cs x h => by
  obtain ⟨s, rfl, _, _⟩ := DataW.trod_string ht h
  exact ⟨.val (.string s), rfl, rfl, rfl, rfl, s, rfl⟩
theorem reads_bool {P : Program} {t : TypeId} (ht : P.underlying t = some .bool) : Reads P t 1 fun d => ∃ b, d = .val (.bool b) := fun H enc w fuel cs x h => by
  obtain ⟨b, rfl, _⟩ := DataW.trod_bool ht h
  exact ⟨.val (.bool b), rfl, rfl, rfl, rfl, b, rfl⟩

/-- The fields of a struct, one behind the other. -/
def FieldsRead (P : Program) : List Field → List (Nat × (D → Prop)) → Nat → Prop
  | [], [], _ => True
  | f :: fs, (z, good) :: r, o => Reads P f.type z good ∧ P.cellsOf f.type = z ∧ f.offset = o ∧ FieldsRead P fs r (o + z)
  | _, _, _ => False
def fieldsGood : List (Nat × (D → Prop)) → D → Prop
  | [], d => d = .nil
  | (_, good) :: r, d => ∃ a t, d = .cons a t ∧ good a ∧ fieldsGood r t
def fieldsSize : List (Nat × (D → Prop)) → Nat
  | [] => 0
  | (z, _) :: r => z + fieldsSize r

theorem reads_struct {P : Program} {t : TypeId} {fs : Array Field} (ht : P.underlying t = some (.struct fs)) {gs : List (Nat × (D → Prop))} (hf : FieldsRead P fs.toList gs 0) (hz : P.cellsOf t = fieldsSize gs) :
    Reads P t (fieldsSize gs) fun d => ∃ s, d = .agg s ∧ fieldsGood gs s := fun H enc w fuel cs x h => by
  obtain ⟨xs, n, _, _, hl, hlen, he⟩ := DataW.trod_struct ht h
  have each : ∀ f ∈ fs.toList, ∃ y, DataW.trod enc P w 0 (fun _ => true) true n f.type ((cs.drop f.offset).take (P.cellsOf f.type)) = some y := fun f hm => by
    obtain ⟨i, hi, rfl⟩ := List.getElem_of_mem hm
    have h1 := he i fs[i] (by simp at hi; simp [hi])
    rw [List.getElem?_eq_getElem (by simp at hi; omega)] at h1
    exact ⟨_, h1⟩
  have key : ∀ (l : List Field) (gs : List (Nat × (D → Prop))) (o : Nat), FieldsRead P l gs o → (∀ f ∈ l, f ∈ fs.toList) → cs.length = o + fieldsSize gs →
      ∃ s : G, T.Holds w.heap (allB w) s ∧ s.free = true ∧ s.cells = cs.drop o ∧ s.width = fieldsSize gs ∧ fieldsGood gs s.erase := by
    intro l
    induction l with
    | nil =>
      intro gs o h1 _ h2
      cases gs with
      | nil => exact ⟨.nil, trivial, rfl, by simp only [fieldsSize] at h2; simp [T.cells, h2], rfl, rfl⟩
      | cons _ _ => exact h1.elim
    | cons f l ih =>
      intro gs o h1 hm h2
      cases gs with
      | nil => exact h1.elim
      | cons p r =>
        obtain ⟨z, good⟩ := p
        obtain ⟨k1, k2, k3, k4⟩ := h1
        simp only [fieldsSize] at h2
        obtain ⟨s, s1, s2, s3, s4, s5⟩ := ih r (o + z) k4 (fun f hf => hm f (by simp [hf])) (by omega)
        obtain ⟨y, hy⟩ := each f (hm f (by simp))
        obtain ⟨g, g1, g2, g3, g4, g5⟩ := k1 H enc w n _ y hy
        refine ⟨.cons g s, ⟨g1, s1⟩, by simp [T.free, g2, s2], ?_, by simp [T.width, g4, s4, fieldsSize], _, _, rfl, g5, s5⟩
        simp only [T.cells, g3, s3, k2, k3]
        rw [← List.drop_drop, List.take_append_drop]
  obtain ⟨s, s1, s2, s3, s4, s5⟩ := key fs.toList gs 0 hf (fun _ h => h) (by rw [hl, hz]; omega)
  exact ⟨.agg s, s1, s2, by simpa [T.cells] using s3, s4, _, rfl, s5⟩

theorem erase_agg {g : G} {s : D} (h : g.erase = .agg s) : ∃ s', g = .agg s' ∧ s'.erase = s := by
  cases g <;> simp only [T.erase] at h <;> cases h
  exact ⟨_, rfl, rfl⟩
theorem erase_cons {g : G} {a t : D} (h : g.erase = .cons a t) : ∃ a' t', g = .cons a' t' ∧ a'.erase = a ∧ t'.erase = t := by
  cases g <;> simp only [T.erase] at h <;> cases h
  exact ⟨_, _, rfl, rfl, rfl⟩
theorem erase_val {g : G} {v : Value} (h : g.erase = .val v) : g = .val v := by
  cases g <;> simp only [T.erase] at h <;> cases h
  rfl
theorem erase_nil {g : G} (h : g.erase = .nil) : g = .nil := by
  cases g <;> simp only [T.erase] at h <;> cases h
  rfl

theorem map_of {α β : Type} {f : β → α} : ∀ {l : List α}, (∀ x ∈ l, ∃ y, x = f y) → ∃ ys : List β, l = ys.map f
  | [], _ => ⟨[], rfl⟩
  | x :: l, h => by
    obtain ⟨y, hy⟩ := h x (by simp)
    obtain ⟨ys, hys⟩ := map_of (l := l) (f := f) fun x hx => h x (List.mem_cons_of_mem _ hx)
    exact ⟨y :: ys, by rw [hy, hys]; rfl⟩

theorem cells?_at {w : World} {a : Addr} {n : Nat} {cs : List Value} (h : w.cells? 0 a n = some cs) : cs.length = n ∧ ∀ r v, cs[r]? = some v → w.cell? (a.add r) = some v := by
  obtain ⟨_, h1, h2⟩ := World.cells?_some h
  refine ⟨h1, fun r v hv => ?_⟩
  have hr : r < n := by rw [← h1]; exact (List.getElem?_eq_some_iff.1 hv).1
  have := h2 r hr
  rw [this, hv]

/-- The elements of a slice, one behind the other. -/
theorem reads_elems {P : Program} {e : TypeId} {z : Nat} {good : D → Prop} (he : Reads P e z good) {H : Type} {enc : TypeId × Value → H} {w : World} {n : Nat} {at_ : Nat → List Value} : ∀ (len i0 : Nat),
    (∀ i, i < len → ∃ y, DataW.trod enc P w 0 (fun _ => true) true n e (at_ (i0 + i)) = some y) →
    ∃ s : G, ∃ l : List D, T.Holds w.heap (allB w) s ∧ s.free = true ∧ s.uni z ∧ s.len = len ∧ s.erase = sq l ∧ l.length = len ∧ (∀ d ∈ l, good d) ∧ s.cells = ((List.range len).map fun i => at_ (i0 + i)).flatten
  | 0, i0, _ => ⟨.nil, [], trivial, rfl, trivial, rfl, rfl, rfl, by simp, rfl⟩
  | len + 1, i0, h => by
    obtain ⟨y, hy⟩ := h 0 (by omega)
    obtain ⟨g, g1, g2, g3, g4, g5⟩ := he H enc w n _ y hy
    obtain ⟨s, l, s1, s2, s3, s4, s5, s6, s7, s8⟩ := reads_elems he len (i0 + 1) fun i hi => by
      have := h (i + 1) (by omega)
      rwa [show i0 + (i + 1) = i0 + 1 + i by omega] at this
    refine ⟨.cons g s, g.erase :: l, ⟨g1, s1⟩, by simp [T.free, g2, s2], ⟨g4, s3⟩, by simp [T.len, s4], by simp [T.erase, sq, s5], by simp [s6], fun d hd => ?_, ?_⟩
    · rcases List.mem_cons.1 hd with rfl | hd
      · exact g5
      · exact s7 d hd
    · rw [List.range_succ_eq_map]
      simp only [T.cells, g3, s8, List.map_cons, List.flatten_cons, List.map_map, Nat.add_zero]
      congr 3
      funext i
      simp only [Function.comp]
      congr 1; omega

theorem flat_at {α : Type} {z : Nat} (hz : 0 < z) : ∀ (l : List (List α)) (_ : ∀ c ∈ l, c.length = z) (j : Nat) (v : α), l.flatten[j]? = some v → ∃ c, l[j / z]? = some c ∧ c[j % z]? = some v
  | [], _, j, v, h => by simp at h
  | c :: l, hl, j, v, h => by
    have hc := hl c (by simp)
    simp only [List.flatten_cons] at h
    rcases Nat.lt_or_ge j z with hj | hj
    · rw [List.getElem?_append_left (by omega)] at h
      exact ⟨c, by rw [Nat.div_eq_of_lt hj]; rfl, by rw [Nat.mod_eq_of_lt hj]; exact h⟩
    · rw [List.getElem?_append_right (by omega), hc] at h
      obtain ⟨c', h1, h2⟩ := flat_at hz l (fun c hc => hl c (by simp [hc])) (j - z) v h
      refine ⟨c', ?_, ?_⟩
      · rw [show j / z = (j - z) / z + 1 by rw [Nat.div_eq_sub_div hz hj]]; simpa using h1
      · rw [Nat.mod_eq_sub_mod hj]; exact h2

/-- A slice that is an argument: it cannot change. -/
theorem imm_of_trod {P : Program} {t e : TypeId} {z : Nat} {good : D → Prop} (ht : P.underlying t = some (.slice e)) (he : Reads P e z good) (hc : P.cellsOf e = z) (hz : 0 < z) {H : Type} {enc : TypeId × Value → H} {w : World}
    {r : Reach} {b0 : Nat} {v : Value} {d : DataW H} {ps : List MemPlace} (hv : Value.okWide P w r b0 t v) (h : DataW.Trod enc P w 0 (fun _ => true) true t v d ps) :
    ∃ l : List D, (∀ d ∈ l, good d) ∧ l.length ≤ 2 ^ 63 - 1 ∧ Rl w.heap (allB w) [] (.imm z (sq l) false) true [v] := by
  obtain ⟨fuel, h⟩ := h
  have hok : Cell.ok P w r b0 t v := by
    unfold Value.okWide at hv
    rw [ht] at hv
    simp only [Cell.okWide, ht] at hv
    exact hv
  have hform : v = .slice none 0 0 ∨ ∃ a len cap, v = .slice (some a) len cap ∧ len ≤ cap ∧ (cap : Int) ≤ IntKind.i64.max ∧ a.spot = none := by
    unfold Cell.ok at hok
    rw [ht] at hok
    split at hok <;> try exact hok.elim
    all_goals first
      | (rename_i heq; cases heq; done)
      | skip
    · exact .inl rfl
    · exact .inr ⟨_, _, _, rfl, hok.1, hok.2.1, hok.2.2.2.1⟩
  rcases hform with rfl | ⟨a, len, cap, rfl, hlc, hcm, hspot⟩
  · exact ⟨[], by simp, by simp, _, rfl, .nil, rfl, ⟨trivial, trivial, fun _ => rfl, rfl, rfl, rfl⟩, fun h => by cases h⟩
  · obtain ⟨b, o, sp⟩ := a
    simp only at hspot
    subst hspot
    have hcm' : cap ≤ 2 ^ 63 - 1 := by
      have : IntKind.i64.max = 2 ^ 63 - 1 := by decide
      omega
    rcases cap with _ | cap
    · obtain rfl : len = 0 := by omega
      exact ⟨[], by simp, by simp, _, rfl, .nil, rfl, ⟨trivial, trivial, fun _ => rfl, rfl, rfl, rfl⟩, fun h => by cases h⟩
    · rcases DataW.trod_slice ht h with ⟨h0, _⟩ | ⟨a, len', cap', elems, rest, n, _, h0, _, hb, hl, hm, hlen, hel, hsp, _⟩
      · simp [Value.cells] at h0
      · simp only [Value.cells, List.cons.injEq, Value.slice.injEq, Option.some.injEq, and_true] at h0
        obtain ⟨rfl, rfl, rfl⟩ := h0
        obtain ⟨hsp1, hsp2⟩ := hsp rfl
        have hadd : ∀ k, (⟨b, o, none⟩ : Addr).add k = ⟨b, o + k, none⟩ := fun k => by unfold Addr.add; split <;> simp_all
        rw [hc] at hel hsp2
        -- every element reads
        have each : ∀ i, i < cap + 1 → ∃ cs, w.cells? 0 ((⟨b, o, none⟩ : Addr).add (i * z)) z = some cs ∧ ∃ y, DataW.trod enc P w 0 (fun _ => true) true n e cs = some y := fun i hi => by
          by_cases h1 : i < len
          · have h2 := hel i h1
            rw [List.getElem?_eq_getElem (by omega)] at h2
            obtain ⟨cs, h3, h4⟩ := Option.bind_eq_some_iff.1 h2
            exact ⟨cs, h3, _, h4⟩
          · have h2 := hsp2 (i - len) (by omega)
            rw [List.getElem?_eq_getElem (by omega), show len + (i - len) = i by omega] at h2
            obtain ⟨cs, h3, h4⟩ := Option.bind_eq_some_iff.1 h2
            exact ⟨cs, h3, _, h4⟩
        -- the row
        obtain ⟨csl, hl1, _⟩ := each cap (by omega)
        obtain ⟨hl2, hl3⟩ := cells?_at hl1
        have hl4 := hl3 (z - 1) _ (List.getElem?_eq_getElem (by omega))
        rw [hadd] at hl4
        have hadd2 : ∀ (o' k : Nat), (⟨b, o', none⟩ : Addr).add k = ⟨b, o' + k, none⟩ := fun o' k => by unfold Addr.add; split <;> simp_all
        rw [hadd2] at hl4
        obtain ⟨row, e', fr, hrow⟩ : ∃ row e' fr, w.heap[b]? = some (.cells row e' fr) := by
          unfold World.cell? at hl4
          split at hl4
          · rename_i c _ _ heq; exact ⟨_, _, _, heq⟩
          · cases hl4
        have cell : ∀ k v, w.cell? ⟨b, k, none⟩ = some v → row[k]? = some v := fun k v hk => by
          unfold World.cell? at hk
          simp only [hrow] at hk
          simpa using hk
        have hblt : b < w.heap.size := by
          rcases Nat.lt_or_ge b w.heap.size with h' | h'
          · exact h'
          · rw [Array.getElem?_eq_none h'] at hrow; cases hrow
        have hsz : o + (cap + 1) * z ≤ row.size := by
          have h5 := cell _ _ hl4
          have h6 := (Array.getElem?_eq_some_iff.1 h5).1
          rw [Nat.add_mul]; omega
        obtain ⟨s, l, s1, s2, s3, s4, s5, s6, s7, s8⟩ := reads_elems (enc := enc) (w := w) (n := n) (at_ := fun i => (w.cells? 0 ((⟨b, o, none⟩ : Addr).add (i * z)) z).getD []) he len 0 fun i hi => by
          obtain ⟨cs, h1, h2⟩ := each (0 + i) (by omega)
          rw [h1]; exact h2
        refine ⟨l, s7, by omega, _, rfl, s, s5, ⟨s1, s3, fun _ => s2, rfl, s4.symm, hlc, hcm', fun _ => hblt, row, e', fr, hrow, (fun h => by cases h), hsz, fun j v hj => ?_⟩, fun h => by cases h⟩
        rw [s8] at hj
        obtain ⟨c, c1, c2⟩ := flat_at hz _ (fun c hcm => by
          obtain ⟨i, hi, rfl⟩ := List.mem_map.1 hcm
          obtain ⟨cs, h1, _⟩ := each (0 + i) (by have := List.mem_range.1 hi; omega)
          rw [h1]; exact (cells?_at h1).1) j v hj
        rw [List.getElem?_map] at c1
        cases hr : (List.range len)[j / z]? with
        | none => rw [hr] at c1; cases c1
        | some i =>
          rw [hr] at c1
          obtain ⟨hi1, hi2⟩ := List.getElem?_eq_some_iff.1 hr
          simp only [List.length_range] at hi1
          simp only [List.getElem_range] at hi2
          subst hi2
          obtain ⟨cs, h1, _⟩ := each (0 + j / z) (by omega)
          simp only [Option.map_some, Option.some.injEq, h1, Option.getD_some] at c1
          subst c1
          have h2 := (cells?_at h1).2 _ _ c2
          rw [hadd, hadd2] at h2
          have h3 := cell _ _ h2
          rw [← h3]
          congr 1
          have := Nat.div_add_mod j z
          rw [Nat.mul_comm] at this
          simp only [Nat.zero_add]
          omega
end Go.Vc
