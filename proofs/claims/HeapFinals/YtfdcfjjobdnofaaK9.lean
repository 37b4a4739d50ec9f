/- Finals of deeds, plainly. -/
import Derived.Test.YtfdcfjjobdnofaaK8
import Derived.Test.YtfdcfjjobdnofaaRows
import Derived.WalkKit
import Derived.ProofKit
import Derived.OpenShut
import Derived.ShutString
import Derived.ChangeOld
import Derived.Carry
namespace Go.Proofs.Ytfdcfjjobdnofaa
set_option linter.all false
open Go.Vc Go.Proofs

/-- Whether a deed made a final with a tag. -/
def oldB (L : List Hd) (t : Int) : Bool := (L.take 100).any fun d => isFin d && decide (d.b = t)
theorem act_fin {d : Hd} {h : Hp} (h6 : (actD d h).d = 6) : isFin d = true ∧ (actD d h).b = d.b := by
  have h6' : (fitD d h.next.toNat).d = 6 := h6
  have hb : (actD d h).b = (fitD d h.next.toNat).b := rfl
  rw [hb]
  unfold fitD at h6' ⊢
  unfold isFin
  repeat' split at h6'
  all_goals simp_all
theorem fins_run {L : List Hd} {t : Int} : ∀ {h : Hp}, t ∈ ((runL h L).fins.map (·.2)) ++ (runL h L).queue → t ∈ (h.fins.map (·.2)) ++ h.queue ∨ ∃ d ∈ L, isFin d = true ∧ d.b = t := by
  induction L with
  | nil => exact fun h => .inl h
  | cons d l ih =>
    intro h ht
    rcases ih (h := (doE h (actD d h)).1) ht with h1 | ⟨e, he, h1⟩
    · rcases fins_do h1 with h2 | ⟨h2, h3⟩
      · exact .inl h2
      · obtain ⟨h4, h5⟩ := act_fin h2
        exact .inr ⟨d, by simp, h4, by rw [← h5, h3]⟩
    · exact .inr ⟨e, by simp [he], h1⟩
theorem played_old {nn : Int} {L : List Hd} {t : Int} (ht : t ∈ ((playedOf nn L).fins.map (·.2)) ++ (playedOf nn L).queue) : oldB L t = true := by
  rcases fins_run ht with h1 | ⟨d, hd, h1, h2⟩
  · simp [bornOf] at h1
  · rw [oldB, List.any_eq_true]
    exact ⟨d, hd, by simp [h1, h2]⟩
theorem played_none {nn : Int} {L : List Hd} (hL : ∀ d ∈ L, isFin d = false) : (playedOf nn L).fins = [] := by
  rw [← List.map_eq_nil_iff (f := fun p : Int × Int => p.2), List.eq_nil_iff_forall_not_mem]
  intro t ht
  have := played_old (nn := nn) (L := L) (t := t) (by rw [List.mem_append]; exact .inl ht)
  rw [oldB, List.any_eq_true] at this
  obtain ⟨d, hd, h1⟩ := this
  rw [hL d (List.mem_of_mem_take hd)] at h1
  simp at h1
end Go.Proofs.Ytfdcfjjobdnofaa

/- Whether a deed made a final; no roots. -/
namespace Go.Proofs.Ytfdcfjjobdnofaa
set_option linter.all false
open Go.Vc Go.Proofs
set_option linter.unusedSimpArgs false
set_option linter.unusedVariables false
set_option maxRecDepth 100000
set_option maxHeartbeats 4000000
attribute [local irreducible] CallW EqK

theorem meets_chill {P : Program} {f : FuncId} {Y : List D} {t : AV} {R : AV → List D → List (Nat × Path) → Prop} (h : Meets P f Y t.chill R) : Meets P f Y t R :=
 ⟨h.1, fun w I F0 vs h1 h2 h3 h4 h5 h6 h7 => h.2 w I F0 vs h1 h2 h3 h4 h5 h6 h7.chill⟩
theorem roots_n (h : Hp) (k : Ok h) : Meets Try.prog 21 [dHp h] (.cons (.ptr 0 [.d]) (.cons (.nils 1) .nil))
  fun av X κ => av = avInt 0 ∧ X = [dHp { h with roots := [] }] ∧ κ = [(0, [.d])] := by
 refine Meets.mono (meets_chill (roots_ok h k [] _ (by simp))) ?_
 rintro av X κ ⟨rfl, rfl, rfl⟩
 exact ⟨rfl, rfl, rfl⟩

theorem any_snoc (p : Hd → Bool) {l : List Hd} {i : Nat} (h : i < l.length) : (l.take (i + 1)).any p = ((l.take i).any p || p l[i]) := by
 rw [List.take_add_one, List.getElem?_eq_getElem h, List.any_append]; simp
/- cabochon/cabochonlaw27.old -/
theorem old_ok (L : List Hd) (ex : Bool) (t : Int) : Meets Try.prog 20 [] (.cons (.imm 5 (dLds L) ex) (.cons (avInt t) .nil)) fun av X κ => av = avBool (oldB L t) ∧ X = [] ∧ κ = [] := by
 obtain ⟨p, hp⟩ : ∃ p : Hd → Bool, p = fun d => isFin d && decide (d.b = t) := ⟨_, rfl⟩
 have ho : oldB L t = (L.take 100).any p := by rw [oldB, hp]
 refine fb Try.func20 Try.ntmps20 [.tmp 4] fun w0 I0 F0 hF => ?_
 repeat first|refine n1 ?_|refine n3 ?_|((first|refine rg 0 [0, 1] [0, 1] [] ?_|refine rg 1 [0, 1] [0, 1, 5] [] ?_);simp (maxSteps := 1000000) [hF])
 refine VS.rounds (fun m st => ∃ (i : Nat), i + m = L.length ∧ i ≤ 100 ∧ (L.take i).any p = false ∧ st = ⟨[(0, .imm 5 (dLds L) ex), (1, avInt t), (5, avInt i)], [], [], []⟩) ⟨L.length, 0, by omega, by omega, by simp, by simp⟩ ?_
 rintro m st ⟨i, hi, hi8, hn, rfl⟩
 have hw : IntKind.i64.wrap ((i : Int) + 1) = (i + 1 : Nat) := by rw [IntWalk.i64_in _ (by omega)]; rfl
 repeat first|refine n1 ?_|(refine rg 2 [0, 1, 5] [0, 1, 5, 13] [(4, 10)] ?_;simp (maxSteps := 1000000) [hF])
 refine ⟨fun hlt => ?_, fun hge => ?_⟩
 ·repeat first|(refine nc ?_;simp (maxSteps := 1000000) [hF])
  refine ⟨fun h8 => ?_, fun h8 => ?_⟩
  ·have hlt' : i < L.length := by omega
   have hn1 := dLds_nth hlt'
   have hs := any_snoc p hlt'
   have hyes : p L[i] = true → oldB L t = true := fun hx => by
    rw [ho, List.any_eq_true]
    exact ⟨L[i], List.mem_take_iff_getElem.2 ⟨i, by omega, rfl⟩, hx⟩
   generalize L[i] = d at *
   by_cases hb : d.b = t
   ·by_cases h6 : d.d = 6
    ·have hy := hyes (by simp [hp, isFin, h6, hb])
     repeat first|refine n1 ?_|refine n2 ?_|refine n3 ?_|((first|refine rg 4 [0, 1, 5] [0, 1, 5, 38] [(6, 22), (14, 30)] ?_|refine rg 5 [] [4] [] ?_|refine nc ?_);simp (maxSteps := 1000000) [hF, hn1, hlt', h6, hb])
     (try refine nr ?_);(repeat first|refine nb_ ?_|refine nl_ ?_);refine endK.o [4] [] [] ?_;simp [hF, retK, covers, mpre, hy]
    ·by_cases h11 : d.d = 11
     ·have hy := hyes (by simp [hp, isFin, h11, hb])
      repeat first|refine n1 ?_|refine n2 ?_|refine n3 ?_|((first|refine rg 4 [0, 1, 5] [0, 1, 5, 38] [(6, 22), (14, 30)] ?_|refine rg 5 [] [4] [] ?_|refine nc ?_);simp (maxSteps := 1000000) [hF, hn1, hlt', h6, h11, hb])
      (try refine nr ?_);(repeat first|refine nb_ ?_|refine nl_ ?_);refine endK.o [4] [] [] ?_;simp [hF, retK, covers, mpre, hy]
     ·repeat first|refine n1 ?_|refine n2 ?_|refine n3 ?_|refine n4 ?_|refine n5 ?_|refine n6 ?_|((first|refine rg 3 [0, 1, 5] [0, 1, 5] [] ?_|refine rg 4 [0, 1, 5] [0, 1, 5, 38] [(6, 22), (14, 30)] ?_|refine nc ?_);simp (maxSteps := 1000000) [hF, hn1, hlt', h6, h11, hb, hw])
      refine nextK.of [0, 1, 5] [] (m - 1) (by omega) (by simp [hF]) ?_
      exact ⟨i + 1, by omega, by omega, by rw [hs, hn]; simp [hp, isFin, h6, h11], by simp⟩
   ·by_cases h6 : d.d = 6
    ·repeat first|refine n1 ?_|refine n2 ?_|refine n3 ?_|refine n4 ?_|refine n5 ?_|refine n6 ?_|((first|refine rg 3 [0, 1, 5] [0, 1, 5] [] ?_|refine rg 4 [0, 1, 5] [0, 1, 5, 38] [(6, 22), (14, 30)] ?_|refine nc ?_);simp (maxSteps := 1000000) [hF, hn1, hlt', h6, hb, hw])
     refine nextK.of [0, 1, 5] [] (m - 1) (by omega) (by simp [hF]) ?_
     exact ⟨i + 1, by omega, by omega, by rw [hs, hn]; simp [hp, hb], by simp⟩
    ·by_cases h11 : d.d = 11
     ·repeat first|refine n1 ?_|refine n2 ?_|refine n3 ?_|refine n4 ?_|refine n5 ?_|refine n6 ?_|((first|refine rg 3 [0, 1, 5] [0, 1, 5] [] ?_|refine rg 4 [0, 1, 5] [0, 1, 5, 38] [(6, 22), (14, 30)] ?_|refine nc ?_);simp (maxSteps := 1000000) [hF, hn1, hlt', h6, h11, hb, hw])
      refine nextK.of [0, 1, 5] [] (m - 1) (by omega) (by simp [hF]) ?_
      exact ⟨i + 1, by omega, by omega, by rw [hs, hn]; simp [hp, hb], by simp⟩
     ·repeat first|refine n1 ?_|refine n2 ?_|refine n3 ?_|refine n4 ?_|refine n5 ?_|refine n6 ?_|((first|refine rg 3 [0, 1, 5] [0, 1, 5] [] ?_|refine rg 4 [0, 1, 5] [0, 1, 5, 38] [(6, 22), (14, 30)] ?_|refine nc ?_);simp (maxSteps := 1000000) [hF, hn1, hlt', h6, h11, hb, hw])
      refine nextK.of [0, 1, 5] [] (m - 1) (by omega) (by simp [hF]) ?_
      exact ⟨i + 1, by omega, by omega, by rw [hs, hn]; simp [hp, hb], by simp⟩
  ·have hf : oldB L t = false := by rw [ho, show 100 = i from by omega]; exact hn
   repeat first|refine n1 ?_|refine n7 ?_|(refine rg 6 [] [4] [] ?_;simp (maxSteps := 1000000) [hF])
   (try refine nr ?_);(repeat first|refine nb_ ?_|refine nl_ ?_);refine endK.o [4] [] [] ?_;simp [hF, retK, covers, mpre, hf]
 ·have hf : oldB L t = false := by
   rw [ho, List.take_of_length_le (by omega)]
   rw [List.take_of_length_le (by omega)] at hn
   exact hn
  repeat first|refine n1 ?_|refine n7 ?_|((first|refine rg 6 [] [4] [] ?_|refine nc ?_);simp (maxSteps := 1000000) [hF])
  (try refine nr ?_);(repeat first|refine nb_ ?_|refine nl_ ?_);refine endK.o [4] [] [] ?_;simp [hF, retK, covers, mpre, hf]
end Go.Proofs.Ytfdcfjjobdnofaa

/- Finals that come up, plainly. -/
namespace Go.Proofs.Ytfdcfjjobdnofaa
set_option linter.all false
open Go.Vc Go.Proofs

theorem fit_fins {n : Nat} {h : Hp} (f : Fit n h) (l : List Int) : ∀ i, i ≤ (allOf h).length → Fit (n + i) (withFins h ((allOf h).take i)) := by
  intro i
  induction i with
  | zero =>
    intro _
    have e : withFins h ((allOf h).take 0) = h := by simp [withFins]
    rw [e]; exact f
  | succ i ih =>
    intro hi
    have hlt : i < (allOf h).length := by omega
    have hm : (allOf h)[i] ∈ allOf h := List.getElem_mem hlt
    have fi := ih (by omega)
    have hx : there (withFins h ((allOf h).take i)) (allOf h)[i] = true := allOf_mem.1 hm
    have h1 := fit_do fi ⟨6, (allOf h)[i], 1000 + (allOf h)[i], 0, []⟩
    have h2 := final_one (l := (allOf h).take i) (x := (allOf h)[i]) (allOf_mem.1 hm) f.fine.ok
    have h3 : doE (withFins h ((allOf h).take i)) ⟨6, (allOf h)[i], 1000 + (allOf h)[i], 0, []⟩ = ((finalOf (withFins h ((allOf h).take i)) (allOf h)[i] (1000 + (allOf h)[i])).1, 0, (finalOf (withFins h ((allOf h).take i)) (allOf h)[i] (1000 + (allOf h)[i])).2) := by simp [doE]
    rw [h3, h2] at h1
    have e : (allOf h).take (i + 1) = (allOf h).take i ++ [(allOf h)[i]] := by rw [List.take_add_one, List.getElem?_eq_getElem hlt]; rfl
    rw [e]
    exact h1
theorem queue_in {h : Hp} {n : Nat} (f : Fit n h) (hq : h.queue = []) {Old : Int → Prop} (ho : ∀ g ∈ h.fins, Old g.2) {t : Int} (ht : t ∈ (collectE (withFins h (allOf h)) false).1.queue) : Old t ∨ (1000 ≤ t ∧ t ≤ 1000 + n) := by
  rw [queue_of hq, List.mem_append] at ht
  rcases ht with ht | ht
  · obtain ⟨g, hg, rfl⟩ := List.mem_map.1 ht
    exact .inl (ho g (List.mem_filter.1 hg).1)
  · obtain ⟨x, hx, rfl⟩ := List.mem_map.1 ht
    obtain ⟨o, hoo, rfl⟩ := there_obj (allOf_mem.1 (List.mem_filter.1 hx).1)
    have h1 := f.fine.ok.small o hoo
    have h2 := f.fine.next
    exact .inr ⟨by omega, by omega⟩
theorem live_fins (h : Hp) (l : List Int) : liveOf (withFins h l) = liveOf h := rfl
theorem filter_snoc (p : Int → Bool) {l : List Int} {i : Nat} (h : i < l.length) : (l.take (i + 1)).filter p = if p l[i] = true then (l.take i).filter p ++ [l[i]] else (l.take i).filter p := by
  rw [List.take_add_one, List.getElem?_eq_getElem h, List.filter_append]
  by_cases hp : p l[i] = true
  · rw [if_pos hp]; simp [hp]
  · rw [if_neg hp]; simp [hp]
end Go.Proofs.Ytfdcfjjobdnofaa

/- HeapFinals. -/
namespace Go.Proofs.Ytfdcfjjobdnofaa
set_option linter.all false
open Go.Vc Go.Proofs
set_option linter.unusedSimpArgs false
set_option linter.unusedVariables false
set_option maxRecDepth 100000
set_option maxHeartbeats 8000000
attribute [local irreducible] CallW EqK

/- cabochon/cabochonlaw27.HeapFinals -/
theorem hfinals_ok (nn : Int) (L : List Hd) (ex : Bool) : Meets Try.prog 4 [] (.cons (avInt nn) (.cons (.imm 5 (dLds L) ex) .nil)) fun av X κ => av = .val (.bool true) := by
 have f0 := fit_played nn L
 have hold0 : ∀ t ∈ ((playedOf nn L).fins.map (·.2)) ++ (playedOf nn L).queue, oldB L t = true := fun t ht => played_old ht
 obtain ⟨h, hP⟩ : ∃ h, h = playedOf nn L := ⟨_, rfl⟩
 rw [← hP] at f0 hold0
 have hql0 : h.queue.length ≤ 100 := by have := f0.fine.tags; omega
 have hfl0 : h.fins.length ≤ 100 := by have := f0.fine.tags; omega
 refine fb Try.func4 Try.ntmps4 [.tmp 4] fun w0 I0 F0 hF => ?_
 repeat first|refine n1 ?_|((first|refine rg 0 [0, 1] [0, 1] [] ?_|refine rg 1 [0, 1] [1, 5, 7] [] ?_);simp (maxSteps := 1000000) [hF])
 refine (played_ok nn L ex).go [] (by simp (maxSteps := 1000000) [hF, ← hP]) ?_;rintro av X κ ⟨rfl, rfl, rfl⟩;simp (maxSteps := 1000000) [hF, ← hP]
 repeat first|refine n1 ?_|refine n2 ?_|refine n3 ?_|((first|refine rg 2 [1, 5, 7] [1, 5, 28] [] ?_|refine rg 4 [1, 5] [1, 5, 8] [] ?_|refine nc ?_);simp (maxSteps := 1000000) [hF])
 refine VS.pick [1, 5, 8] [0] (by simp [hF]) ?_;simp [hF]
 refine VS.rounds (fun m st => ∃ (i : Nat), i + m = 200 ∧ i ≤ h.queue.length ∧ st = ⟨[(1, .imm 5 (dLds L) ex), (5, .ptr 0 [.d]), (8, avInt i)], [dHp { h with queue := h.queue.drop i }], [], []⟩) ⟨200, 0, by omega, by omega, by simp [dHp]⟩ ?_
 rintro m st ⟨i, hi, hiq, rfl⟩
 have hw : IntKind.i64.wrap ((i : Int) + 1) = (i + 1 : Nat) := by rw [IntWalk.i64_in _ (by omega)]; rfl
 have fq : Fit 100 { h with queue := h.queue.drop i } := f0.withQ (by simp)
 repeat first|refine n1 ?_|((first|refine rg 5 [1, 5, 8] [1, 5, 8, 30] [] ?_|refine nc ?_);simp (maxSteps := 1000000) [hF])
 refine ⟨fun hlt => ?_, fun hge => (by omega : False).elim⟩
 by_cases hil : i < h.queue.length
 ·have hdr : h.queue.drop i = h.queue[i] :: h.queue.drop (i + 1) := List.drop_eq_getElem_cons hil
  have htk : takeOf { h with queue := h.queue.drop i } = ({ h with queue := h.queue.drop (i + 1) }, h.queue[i], 0) := by simp only [takeOf, hdr]
  repeat first|refine n1 ?_|refine n2 ?_|refine n3 ?_|(refine rg 7 [1, 5, 8] [1, 5, 8, 10] [] ?_;simp (maxSteps := 1000000) [hF])
  refine (take_ok { h with queue := h.queue.drop i } fq.fine.ok (fq.ql (by omega))).go [(0, [])] (by simp (maxSteps := 1000000) [hF, dHp, htk]) ?_;rintro av X κ ⟨rfl, rfl, rfl⟩;simp (maxSteps := 1000000) [hF, dHp, htk]
  repeat first|refine n1 ?_|refine n2 ?_|refine n4 ?_|refine n5 ?_|refine n6 ?_|((first|refine rg 6 [1, 5, 8] [1, 5, 8] [] ?_|refine rg 8 [1, 5, 8, 10] [1, 5, 8, 39] [] ?_|refine nc ?_);simp (maxSteps := 1000000) [hF, hw])
  refine nextK.of [1, 5, 8] [0] (m - 1) (by omega) (by simp [hF]) ?_
  exact ⟨i + 1, by omega, by omega, by simp [dHp]⟩
 have hdr : h.queue.drop i = [] := List.drop_eq_nil_of_le (by omega)
 obtain ⟨h1, hh1⟩ : ∃ h1, h1 = { h with queue := h.queue.drop i } := ⟨_, rfl⟩
 have htk : takeOf h1 = (h1, 0, 3) := by rw [hh1, hdr]; rfl
 have hq1 : h1.queue = [] := by rw [hh1]; exact hdr
 have hf1 : h1.fins = h.fins := by rw [hh1]
 rw [← hh1] at fq ⊢
 have k1 := fq.fine.ok
 obtain ⟨A, hA⟩ : ∃ A, A = allOf h1 := ⟨_, rfl⟩
 obtain ⟨V, hV⟩ : ∃ V, V = liveOf h1 := ⟨_, rfl⟩
 have hAl : A.length ≤ 100 := by rw [hA]; exact all_next fq
 have hVl : V.length ≤ 2000 := by rw [hV]; exact live_len k1
 have hfit := fit_fins fq A
 have hone : ∀ (l : List Int) (x : Int), x ∈ A → finalOf (withFins h1 l) x (1000 + x) = (withFins h1 (l ++ [x]), 0) := fun l x hx => final_one (allOf_mem.1 (hA ▸ hx)) k1
 have hsm : ∀ x ∈ A, 1 ≤ x ∧ x ≤ 100 := fun x hx => by
  obtain ⟨o, ho, rfl⟩ := there_obj (allOf_mem.1 (hA ▸ hx))
  have h2 := k1.small o ho
  have h3 := fq.fine.next
  exact ⟨by omega, by omega⟩
 have hold1 : ∀ g ∈ h1.fins, oldB L g.2 = true := fun g hg => hold0 g.2 (by rw [List.mem_append]; exact .inl (List.mem_map.2 ⟨g, hf1 ▸ hg, rfl⟩))
 obtain ⟨Q, hQ⟩ : ∃ Q, Q = (collectE (withFins h1 A) false).1.queue := ⟨_, rfl⟩
 obtain ⟨z1, z2, z3, z4⟩ := finals_law (Old := fun t => oldB L t = true) k1 hq1 hold1 (Q := Q) (by rw [hQ, hA])
 have hin : ∀ t ∈ Q, oldB L t = true ∨ (1000 ≤ t ∧ t ≤ 1000 + 100) := fun t ht => by
  have := queue_in (Old := fun t => oldB L t = true) fq hq1 hold1 (t := t) (by rw [← hA, ← hQ]; exact ht)
  omega
 rw [← hA] at hfit z3 z4
 rw [← hV] at z2 z3
 rw [hf1] at z4
 have fA : Fit 200 (withFins h1 A) := by have := hfit A.length (Nat.le_refl _); rw [List.take_length] at this; exact fit_mono this (by omega)
 have hlA : liveOf (withFins h1 A) = V := by rw [live_fins, hV]
 obtain ⟨g, hg⟩ : ∃ g, g = (collectE (withFins h1 A) false).1 := ⟨_, rfl⟩
 have fg : Fit 201 g := by rw [hg]; exact age_collect fA false
 have hgQ : { g with queue := Q } = g := by rw [hQ, ← hg]
 have hwa : withFins h1 [] = h1 := by simp [withFins]
 repeat first|refine n1 ?_|refine n2 ?_|refine n3 ?_|(refine rg 7 [1, 5, 8] [1, 5, 8, 10] [] ?_;simp (maxSteps := 1000000) [hF])
 refine (take_ok h1 k1 (fq.ql (by omega))).go [(0, [])] (by simp (maxSteps := 1000000) [hF, dHp, htk]) ?_;rintro av X κ ⟨rfl, rfl, rfl⟩;simp (maxSteps := 1000000) [hF, dHp, htk]
 repeat first|refine n1 ?_|refine n7 ?_|((first|refine rg 8 [1, 5, 8, 10] [1, 5, 8, 39] [] ?_|refine rg 9 [1, 5] [1, 5, 11] [] ?_|refine nc ?_);simp (maxSteps := 1000000) [hF])
 refine (all_c h1 k1).go [(0, [])] (by simp (maxSteps := 1000000) [hF, dHp, ← hA]) ?_;rintro av X κ ⟨rfl, rfl, rfl⟩;simp (maxSteps := 1000000) [hF, dHp, ← hA]
 repeat first|refine n1 ?_|refine n3 ?_|(refine rg 10 [1, 5, 11] [1, 5, 11, 12] [] ?_;simp (maxSteps := 1000000) [hF])
 refine VS.rounds (fun m st => ∃ (i : Nat), i + m = A.length ∧ st = ⟨[(1, .imm 5 (dLds L) ex), (5, .ptr 0 [.d]), (11, .sub 1 [] 0 A.length false), (12, avInt i)], [dHp (withFins h1 (A.take i)), .sl true () 1 (dInts A)], [], []⟩) ⟨A.length, 0, by omega, by simp [dHp, hwa]⟩ ?_
 rintro m st ⟨i, hi, rfl⟩
 have hw : IntKind.i64.wrap ((i : Int) + 1) = (i + 1 : Nat) := by rw [IntWalk.i64_in _ (by omega)]; rfl
 repeat first|refine n1 ?_|((first|refine rg 11 [1, 5, 11, 12] [1, 5, 11, 12, 45] [] ?_|refine nc ?_);simp (maxSteps := 1000000) [hF])
 refine ⟨fun hlt => ?_, fun hge => ?_⟩
 ·have hlt' : i < A.length := by omega
  have hn1 := dInts_nth hlt'
  have hx := hsm A[i] (List.getElem_mem hlt')
  have hon := hone (A.take i) A[i] (List.getElem_mem hlt')
  have hsn : A.take i ++ [A[i]] = A.take (i + 1) := by rw [List.take_add_one, List.getElem?_eq_getElem hlt']; rfl
  rw [hsn] at hon
  have ff := hfit i (by omega)
  generalize A[i] = x at *
  have hwx : IntKind.i64.wrap (1000 + x) = 1000 + x := IntWalk.i64_in _ (by omega)
  repeat first|refine n1 ?_|refine n2 ?_|refine n3 ?_|((refine dr 13 0 [1, 5, 11, 12] [1, 5, 11, 12, 59] [] [⟨0, 32, 281474976710656, 5⟩, ⟨0, 2048, 562949953421312, 5⟩, ⟨0, 4096, 1125899906842624, 5⟩, ⟨6, 1688849860263936, 2251799813685248, 5⟩, ⟨8, 2251799813685248, 4503599627370496, 6⟩, ⟨0, 2048, 9007199254740992, 5⟩, ⟨0, 4096, 18014398509481984, 5⟩, ⟨96, 27021597764222976, 36028797018963968, 5⟩, ⟨128, 36028797018963968, 72057594037927936, 6⟩, ⟨256, 72057594037927936, 144115188075855872, 5⟩, ⟨529, 148900262679937024, 288230376151711744, 0⟩, ⟨1024, 288230376151711744, 576460752303423488, 5⟩] (.take 0 (.take 1 (.take 2 (.take 3 (.take 4 (.take 5 (.take 6 (.take 7 (.take 8 (.take 9 (.fork (.alt 10 (.take 11 (.done)) (.nil))))))))))))) (.run [0, 1, 2, 3, 4, 5, 6, 7, 8, 9, 10, 11] (.done)) ?_;simp only [drs]);simp (maxSteps := 1000000) [hF, hn1, hlt', hwx])
  refine (final_ok (withFins h1 (A.take i)) ff.fine.ok (ff.fl (by omega)) x (1000 + x)).go [(0, [])] (by simp (maxSteps := 1000000) [hF, dHp, hon]) ?_;rintro av X κ ⟨rfl, rfl, rfl⟩;simp (maxSteps := 1000000) [hF, dHp, hon]
  repeat first|refine n2 ?_|refine n4 ?_|refine n5 ?_|refine n6 ?_|((first|refine rg 12 [1, 5, 11, 12] [1, 5, 11, 12] [] ?_|refine nc ?_);simp (maxSteps := 1000000) [hF, hw])
  refine nextK.of [1, 5, 11, 12] [0, 1] (m - 1) (by omega) (by simp [hF]) ?_
  exact ⟨i + 1, by omega, by simp [dHp]⟩
 have hAe : A.take i = A := List.take_of_length_le (by omega)
 rw [hAe]
 repeat first|refine n1 ?_|refine n7 ?_|(refine rg 15 [1, 5, 11] [1, 5, 11, 13] [] ?_;simp (maxSteps := 1000000) [hF])
 refine (live_c (withFins h1 A) fA.fine.ok).go [(0, [])] (by simp (maxSteps := 1000000) [hF, dHp, hlA]) ?_;rintro av X κ ⟨rfl, rfl, rfl⟩;simp (maxSteps := 1000000) [hF, dHp, hlA]
 repeat first|refine n1 ?_|(refine rg 16 [1, 5, 11, 13] [1, 5, 11, 13] [] ?_;simp (maxSteps := 1000000) [hF])
 refine (major_ok (withFins h1 A) fA.fine.ok (fA.wl (by omega)) (fA.fl (by omega)) (fA.ql (by omega)) (fA.ag (by omega))).go [(0, [])] (by simp (maxSteps := 1000000) [hF, dHp, ← hg]) ?_;rintro av X κ ⟨rfl, rfl, rfl⟩;simp (maxSteps := 1000000) [hF, dHp, ← hg]
 repeat first|refine n1 ?_|(refine rg 17 [1, 5, 11, 13] [1, 5, 11, 13, 14] [] ?_;simp (maxSteps := 1000000) [hF])
 refine VS.hold0 14 1 (by simp) ?_
 repeat first|refine n3 ?_|(refine rg 18 [1, 5, 11, 13, 14] [1, 5, 11, 13, 14, 15] [] ?_;simp (maxSteps := 1000000) [hF])
 refine VS.pick [1, 5, 11, 13, 14, 15] [0, 1, 2, 3] (by simp [hF]) ?_;simp [hF]
 refine VS.rounds (fun m st => ∃ (i : Nat) (S : List Int), i + m = 500 ∧ i ≤ Q.length ∧ S = (Q.take i).filter (fun t => decide (1000 ≤ t)) ∧ st = ⟨[(1, .imm 5 (dLds L) ex), (5, .ptr 0 [.d]), (11, .sub 1 [] 0 A.length false), (13, .sub 2 [] 0 V.length false), (14, .sub 3 [] 0 S.length false), (15, avInt i)], [dHp { g with queue := Q.drop i }, .sl true () 1 (dInts A), .sl true () 1 (dInts V), .sl true () 1 (dInts S)], [], []⟩) ⟨500, 0, [], by omega, by omega, by simp, by simp [dHp, hgQ]⟩ ?_
 rintro m st ⟨i, S, hi, hiQ, hS, rfl⟩
 have hw : IntKind.i64.wrap ((i : Int) + 1) = (i + 1 : Nat) := by rw [IntWalk.i64_in _ (by omega)]; rfl
 have hSl : S.length ≤ 300 := by
  rw [hS]
  exact Nat.le_trans (List.length_filter_le _ _) (by rw [List.length_take]; omega)
 have fQ : Fit 201 { g with queue := Q.drop i } := fg.withQ (by rw [hg, ← hQ]; simp)
 repeat first|refine n1 ?_|((first|refine rg 19 [1, 5, 11, 13, 14, 15] [1, 5, 11, 13, 14, 15, 65] [] ?_|refine nc ?_);simp (maxSteps := 1000000) [hF])
 refine ⟨fun hlt => ?_, fun hge => (by omega : False).elim⟩
 by_cases hil : i < Q.length
 ·have hdr : Q.drop i = Q[i] :: Q.drop (i + 1) := List.drop_eq_getElem_cons hil
  have htk : takeOf { g with queue := Q.drop i } = ({ g with queue := Q.drop (i + 1) }, Q[i], 0) := by simp only [takeOf, hdr]
  have hsn := filter_snoc (fun t => decide (1000 ≤ t)) hil
  have hseen : ∀ t ∈ S, t = Q[i] → oldB L Q[i] = true := fun t ht e => by
   rw [hS] at ht
   obtain ⟨j, hj, rfl⟩ := List.mem_take_iff_getElem.1 (List.mem_filter.1 ht).1
   have := z1 j i (by omega) hil (by omega) e
   rw [e] at this; exact this
  have hlive : ∀ x ∈ V, x = IntKind.i64.wrap (Q[i] - 1000) → oldB L Q[i] = true := fun x hx e => by
   rcases hin Q[i] (List.getElem_mem hil) with h2 | h2
   ·exact h2
   ·rw [IntWalk.i64_in _ (by omega)] at e
    exact z2 i x hil hx e
  generalize Q[i] = t at *
  repeat first|refine n1 ?_|refine n2 ?_|refine n3 ?_|(refine rg 21 [1, 5, 11, 13, 14, 15] [1, 5, 11, 13, 14, 15, 16, 17] [] ?_;simp (maxSteps := 1000000) [hF])
  refine (take_ok { g with queue := Q.drop i } fQ.fine.ok (fQ.ql (by omega))).go [(0, [])] (by simp (maxSteps := 1000000) [hF, dHp, htk]) ?_;rintro av X κ ⟨rfl, rfl, rfl⟩;simp (maxSteps := 1000000) [hF, dHp, htk]
  repeat first|refine n1 ?_|refine n2 ?_|((first|refine rg 22 [1, 5, 11, 13, 14, 15, 16, 17] [1, 5, 11, 13, 14, 15, 16, 74] [] ?_|refine rg 23 [1, 5, 11, 13, 14, 15, 16] [1, 5, 11, 13, 14, 15, 16, 76] [] ?_|refine nc ?_);simp (maxSteps := 1000000) [hF])
  refine ⟨fun ht => ?_, fun ht => ?_⟩
  ·rw [if_pos (by simpa using ht)] at hsn
   repeat first|refine n1 ?_|refine n3 ?_|(refine rg 24 [1, 5, 11, 13, 14, 15, 16] [1, 5, 11, 13, 14, 15, 16, 18] [] ?_;simp (maxSteps := 1000000) [hF])
   refine VS.rounds (fun m2 st => ∃ (j : Nat), j + m2 = S.length ∧ st = ⟨[(1, .imm 5 (dLds L) ex), (5, .ptr 0 [.d]), (11, .sub 1 [] 0 A.length false), (13, .sub 2 [] 0 V.length false), (14, .sub 3 [] 0 S.length false), (15, avInt i), (16, avInt t), (18, avInt j)], [dHp { g with queue := Q.drop (i + 1) }, .sl true () 1 (dInts A), .sl true () 1 (dInts V), .sl true () 1 (dInts S)], [], []⟩) ⟨S.length, 0, by omega, by simp [dHp]⟩ ?_
   rintro m2 st ⟨j, hj, rfl⟩
   have hwj : IntKind.i64.wrap ((j : Int) + 1) = (j + 1 : Nat) := by rw [IntWalk.i64_in _ (by omega)]; rfl
   repeat first|refine n1 ?_|((first|refine rg 25 [1, 5, 11, 13, 14, 15, 16, 18] [1, 5, 11, 13, 14, 15, 16, 18, 80] [] ?_|refine nc ?_);simp (maxSteps := 1000000) [hF])
   refine ⟨fun hlt2 => ?_, fun hge2 => ?_⟩
   ·have hjl : j < S.length := by omega
    have hn1 := dInts_nth hjl
    have hse := hseen S[j] (List.getElem_mem hjl)
    generalize S[j] = y at *
    by_cases e : y = t
    ·have ho := hse e
     subst e
     repeat first|refine n1 ?_|refine n2 ?_|refine n3 ?_|(refine rg 27 [1, 5, 11, 13, 14, 15, 16, 18] [1, 5, 11, 13, 14, 15, 16, 18, 94] [(6, 89)] ?_;simp (maxSteps := 1000000) [hF, hn1, hjl])
     refine (old_ok L ex y).go [] (by simp (maxSteps := 1000000) [hF, ho]) ?_;rintro av X κ ⟨rfl, rfl, rfl⟩;simp (maxSteps := 1000000) [hF, ho]
     repeat first|refine n2 ?_|refine n4 ?_|refine n5 ?_|refine n6 ?_|((first|refine rg 26 [1, 5, 11, 13, 14, 15, 16, 18] [1, 5, 11, 13, 14, 15, 16, 18] [] ?_|refine nc ?_);simp (maxSteps := 1000000) [hF, hwj])
     refine nextK.of [1, 5, 11, 13, 14, 15, 16, 18] [0, 1, 2, 3] (m2 - 1) (by omega) (by simp [hF]) ?_
     exact ⟨j + 1, by omega, by simp [dHp]⟩
    ·repeat first|refine n1 ?_|refine n2 ?_|refine n3 ?_|refine n4 ?_|refine n5 ?_|refine n6 ?_|((first|refine rg 26 [1, 5, 11, 13, 14, 15, 16, 18] [1, 5, 11, 13, 14, 15, 16, 18] [] ?_|refine rg 27 [1, 5, 11, 13, 14, 15, 16, 18] [1, 5, 11, 13, 14, 15, 16, 18, 94] [(6, 89)] ?_|refine nc ?_);simp (maxSteps := 1000000) [hF, hn1, hjl, e, hwj])
     refine nextK.of [1, 5, 11, 13, 14, 15, 16, 18] [0, 1, 2, 3] (m2 - 1) (by omega) (by simp [hF]) ?_
     exact ⟨j + 1, by omega, by simp [dHp]⟩
   ·repeat first|refine n1 ?_|refine n3 ?_|refine n7 ?_|(refine rg 29 [1, 5, 11, 13, 14, 15, 16] [1, 5, 11, 13, 14, 15, 16, 19] [] ?_;simp (maxSteps := 1000000) [hF])
    refine VS.rounds (fun m2 st => ∃ (j : Nat), j + m2 = V.length ∧ st = ⟨[(1, .imm 5 (dLds L) ex), (5, .ptr 0 [.d]), (11, .sub 1 [] 0 A.length false), (13, .sub 2 [] 0 V.length false), (14, .sub 3 [] 0 S.length false), (15, avInt i), (16, avInt t), (19, avInt j)], [dHp { g with queue := Q.drop (i + 1) }, .sl true () 1 (dInts A), .sl true () 1 (dInts V), .sl true () 1 (dInts S)], [], []⟩) ⟨V.length, 0, by omega, by simp [dHp]⟩ ?_
    rintro m2 st ⟨j, hj, rfl⟩
    have hwj : IntKind.i64.wrap ((j : Int) + 1) = (j + 1 : Nat) := by rw [IntWalk.i64_in _ (by omega)]; rfl
    repeat first|refine n1 ?_|((first|refine rg 30 [1, 5, 11, 13, 14, 15, 16, 19] [1, 5, 11, 13, 14, 15, 16, 19, 98] [] ?_|refine nc ?_);simp (maxSteps := 1000000) [hF])
    refine ⟨fun hlt2 => ?_, fun hge2 => ?_⟩
    ·have hjl : j < V.length := by omega
     have hn1 := dInts_nth hjl
     have hse := hlive V[j] (List.getElem_mem hjl)
     generalize V[j] = y at *
     by_cases e : y = IntKind.i64.wrap (t - 1000)
     ·have ho := hse e
      repeat first|refine n1 ?_|refine n2 ?_|refine n3 ?_|(refine rg 32 [1, 5, 11, 13, 14, 15, 16, 19] [1, 5, 11, 13, 14, 15, 16, 19, 113] [(7, 108)] ?_;simp (maxSteps := 1000000) [hF, hn1, hjl, e])
      refine (old_ok L ex t).go [] (by simp (maxSteps := 1000000) [hF, ho]) ?_;rintro av X κ ⟨rfl, rfl, rfl⟩;simp (maxSteps := 1000000) [hF, ho]
      repeat first|refine n2 ?_|refine n4 ?_|refine n5 ?_|refine n6 ?_|((first|refine rg 31 [1, 5, 11, 13, 14, 15, 16, 19] [1, 5, 11, 13, 14, 15, 16, 19] [] ?_|refine nc ?_);simp (maxSteps := 1000000) [hF, hwj])
      refine nextK.of [1, 5, 11, 13, 14, 15, 16, 19] [0, 1, 2, 3] (m2 - 1) (by omega) (by simp [hF]) ?_
      exact ⟨j + 1, by omega, by simp [dHp]⟩
     ·repeat first|refine n1 ?_|refine n2 ?_|refine n3 ?_|refine n4 ?_|refine n5 ?_|refine n6 ?_|((first|refine rg 31 [1, 5, 11, 13, 14, 15, 16, 19] [1, 5, 11, 13, 14, 15, 16, 19] [] ?_|refine rg 32 [1, 5, 11, 13, 14, 15, 16, 19] [1, 5, 11, 13, 14, 15, 16, 19, 113] [(7, 108)] ?_|refine nc ?_);simp (maxSteps := 1000000) [hF, hn1, hjl, e, hwj])
      refine nextK.of [1, 5, 11, 13, 14, 15, 16, 19] [0, 1, 2, 3] (m2 - 1) (by omega) (by simp [hF]) ?_
      exact ⟨j + 1, by omega, by simp [dHp]⟩
    ·have hp := dInts_app1 S t
     have hm1 : (dInts (S ++ [t])).mid 0 (S.length + 1) = dInts (S ++ [t]) := sq_mid_all _ _ (by simp)
     have c1 : (S.length + 1) * 8 ≤ 140737488355328 := by omega
     have c2 : S.length ≤ 9223372036854775806 := by omega
     rw [← hS] at hsn
     repeat first|refine n4 ?_|refine n5 ?_|refine n6 ?_|refine n7 ?_|refine n8 ?_|refine n0 ?_|((first|refine rg 20 [1, 5, 11, 13, 14, 15] [1, 5, 11, 13, 14, 15] [] ?_|refine rg 34 [1, 5, 11, 13, 14, 15, 16] [1, 5, 11, 13, 14, 15] [] ?_);simp (maxSteps := 1000000) [hF, hp, hm1, c1, c2, hw])
     refine nextK.of [1, 5, 11, 13, 14, 15] [0, 1, 2, 3] (m - 1) (by omega) (by simp [hF]) ?_
     exact ⟨i + 1, S ++ [t], by omega, by omega, hsn.symm, by simp [dHp]⟩
  ·rw [if_neg (by simpa using ht), ← hS] at hsn
   repeat first|refine n2 ?_|refine n4 ?_|refine n5 ?_|refine n6 ?_|(refine rg 20 [1, 5, 11, 13, 14, 15] [1, 5, 11, 13, 14, 15] [] ?_;simp (maxSteps := 1000000) [hF, hw])
   refine nextK.of [1, 5, 11, 13, 14, 15] [0, 1, 2, 3] (m - 1) (by omega) (by simp [hF]) ?_
   exact ⟨i + 1, S, by omega, by omega, hsn.symm, by simp [dHp]⟩
 have hdr : Q.drop i = [] := List.drop_eq_nil_of_le (by omega)
 have hSe : (Q.filter fun t => decide (1000 ≤ t)).length = S.length := by rw [hS, List.take_of_length_le (by omega)]
 rw [hSe] at z3
 obtain ⟨g1, hg1⟩ : ∃ g1, g1 = { g with queue := Q.drop i } := ⟨_, rfl⟩
 have htk : takeOf g1 = (g1, 0, 3) := by rw [hg1, hdr]; rfl
 rw [← hg1] at fQ ⊢
 have kg := fQ.fine.ok
 obtain ⟨g2, hg2⟩ : ∃ g2, g2 = { g1 with roots := [] } := ⟨_, rfl⟩
 have f2 : Fit 202 g2 := by
  have := fit_do fQ ⟨2, 0, 0, 0, []⟩
  rw [doE_2] at this
  rw [hg2]; exact this
 have f3 := age_collect f2 false
 have f4 := age_collect f3 false
 have hbare := bare_law (h := g2) (by rw [hg2]) f2.fine.ok
 have hlt3 : ¬ (S.length : Int) < (A.length : Int) - V.length := by omega
 have hwl : IntKind.i64.wrap ((A.length : Int) - V.length) = (A.length : Int) - V.length := IntWalk.i64_in _ (by omega)
 repeat first|refine n1 ?_|refine n2 ?_|refine n3 ?_|(refine rg 21 [1, 5, 11, 13, 14, 15] [1, 5, 11, 13, 14, 15, 16, 17] [] ?_;simp (maxSteps := 1000000) [hF])
 refine (take_ok g1 kg (fQ.ql (by omega))).go [(0, [])] (by simp (maxSteps := 1000000) [hF, dHp, htk]) ?_;rintro av X κ ⟨rfl, rfl, rfl⟩;simp (maxSteps := 1000000) [hF, dHp, htk]
 repeat first|refine n1 ?_|refine n2 ?_|refine n7 ?_|((first|refine rg 22 [1, 5, 11, 13, 14, 15, 16, 17] [1, 5, 11, 13, 14, 15, 16, 74] [] ?_|refine rg 35 [5, 11, 13, 14] [5, 125] [] ?_|refine rg 37 [5] [5] [] ?_|refine nc ?_);simp (maxSteps := 1000000) [hF, hwl, hlt3])
 refine (roots_n g1 kg).go [(0, [])] (by simp (maxSteps := 1000000) [hF, dHp, ← hg2]) ?_;rintro av X κ ⟨rfl, rfl, rfl⟩;simp (maxSteps := 1000000) [hF, dHp, ← hg2]
 repeat first|refine n1 ?_|(refine rg 38 [5] [5] [] ?_;simp (maxSteps := 1000000) [hF])
 refine (major_ok g2 f2.fine.ok (f2.wl (by omega)) (f2.fl (by omega)) (f2.ql (by omega)) (f2.ag (by omega))).go [(0, [])] (by simp (maxSteps := 1000000) [hF, dHp]) ?_;rintro av X κ ⟨rfl, rfl, rfl⟩;simp (maxSteps := 1000000) [hF, dHp]
 repeat first|refine n1 ?_|(refine rg 39 [5] [5] [] ?_;simp (maxSteps := 1000000) [hF])
 refine (major_ok (collectE g2 false).1 f3.fine.ok (f3.wl (by omega)) (f3.fl (by omega)) (f3.ql (by omega)) (f3.ag (by omega))).go [(0, [])] (by simp (maxSteps := 1000000) [hF, dHp]) ?_;rintro av X κ ⟨rfl, rfl, rfl⟩;simp (maxSteps := 1000000) [hF, dHp]
 repeat first|refine n1 ?_|(refine rg 40 [5] [4] [(4, 136)] ?_;simp (maxSteps := 1000000) [hF])
 refine (all_c (collectE (collectE g2 false).1 false).1 f4.fine.ok).go [(0, [])] (by simp (maxSteps := 1000000) [hF, dHp, hbare]) ?_;rintro av X κ ⟨rfl, rfl, rfl⟩;simp (maxSteps := 1000000) [hF, dHp, hbare]
 refine (sane_ok).go [] (by simp (maxSteps := 1000000) [hF]) ?_;rintro av X κ ⟨rfl, rfl, rfl⟩;simp (maxSteps := 1000000) [hF]
 (try refine nr ?_);(repeat first|refine nb_ ?_|refine nl_ ?_);refine endK.o [4] [] [] ?_;simp [hF, retK, covers, mpre]
end Go.Proofs.Ytfdcfjjobdnofaa

/- Proved: HeapFinals returns true for every input, and its arguments read behind the call as before. No condition. -/
namespace Go.Proofs.Ytfdcfjjobdnofaa.heapFinals
set_option linter.all false
open Go.Vc Go.ChangeShapes Go.WideShapes Go.ChangeAt Go.RowKit
set_option linter.unusedVariables false

theorem own : ownKnob Try.prog.godebug = none := by kernel_rfl
theorem laid : laidOutB Try.prog = true := by kernel_rfl

set_option maxRecDepth 100000 in
theorem lifted (os : Os) (started : os.Started) (H : Type) (enc : TypeId × Value → H) :
    ReturnsInHanded {} Try.checked os 4 .any (Rows.heapFinalsSpec.pre6 enc Try.prog Try.f4 Rows.heapFinalsRow.domain false) (Rows.heapFinalsSpec.post enc Try.prog Try.f4 false true false false) := by
  refine returnsInHanded_of_change (C := Try.checked) own started (by kernel_rfl) Try.func4
    (ChangeSpec.witness6 (enc := enc) (C := Try.checked) false ⟨#[], #[.int .i64 0, .slice none 0 0], []⟩ 8 (by kernel_rfl) (by kernel_rfl) (by kernel_rfl) (by kernel_rfl)) ?_
  intro W base args ds gs before hval0 hW hcnd _
  have hval : ∀ (j : Nat) t v, Try.f4.params[j]? = some t → args[j]? = some v → Value.okWide Try.prog W .any base t v := hval0
  have hW' := hW
  obtain ⟨p, q, hA0, hV, rfl, hfz, hnd⟩ := hW
  have hA : DataW.TrodAll enc Try.prog W 0 (fun _ => true) true Try.f4.params.toList args.toList ds p := hA0
  rw [Try.params4] at hA hval
  obtain ⟨v0, vs0, d0, ds0, p0, q0, hargs0, rfl, rfl, h0, r0⟩ := trodAll_cons hA
  obtain ⟨v1, vs1, d1, ds1, p1, q1, hargs1, rfl, rfl, h1, r1⟩ := trodAll_cons r0
  obtain ⟨rfl, rfl, rfl⟩ := trodAll_nil r1
  subst hargs1
  obtain rfl : args = #[v0, v1] := by cases args; simp_all
  obtain ⟨rfl, rfl⟩ := trodVars_none hV
  obtain ⟨a0, hr0⟩ := int_of (hval 0 3 v0 rfl rfl) h0
  obtain ⟨a1, hlen1, hr1⟩ := deeds_of (hval 1 22 v1 rfl rfl) h1
  clear hA0 hval0
  have hwalk : Calls Try.prog 4 #[v0, v1] W fun e w' => e = .returned (.bool true) ∧ Below W.heap.size W w' :=
    Meets.law (hfinals_ok a0 a1 false) (vs := [v0, v1]) (I := allB W) (fun _ h => h) ⟨v0, _, rfl, hr0, ⟨v1, _, rfl, hr1, rfl⟩⟩
  refine hwalk.mono fun e W' ⟨he, bel⟩ => ?_
  subst he
  exact ⟨_, rfl, _, _, _, [], _, [], hW', trodAll_mk1 (shut_bool Try.underlying4 _), (trodAll_cons_mk (Below.trod laid (by kernel_rfl) (of_decide_eq_true (by kernel_rfl)) h0 bel fun x hx => hW'.lt x (by simp [hx])) (trodAll_cons_mk (Below.trod laid (by kernel_rfl) (of_decide_eq_true (by kernel_rfl)) h1 bel fun x hx => hW'.lt x (by simp [hx])) trodAll_mk0)), rfl, bel.frame _, fun h => by cases h⟩

theorem over : Rows.heapFinalsRow.holds Try.pinned (OpenSpec.ofChange Rows.heapFinalsSpec) :=
  OpenClaim.holds_of_wide 4 Try.f4 rfl rfl rfl rfl rfl rfl rfl ⟨rfl, rfl, rfl, rfl, rfl⟩ rfl rfl rfl rfl rfl (by kernel_rfl) Try.func4 (by kernel_rfl)
    (of_decide_eq_true (by kernel_rfl)) (by unfold Func.isWrapper; first | (rw [if_pos (by decide +kernel)]; kernel_rfl) | (rw [if_neg (by decide +kernel)]; exact ⟨rfl, rfl⟩))
    (fun os started H enc _ => lifted os started H enc)

/-- THE STATEMENT -/
theorem proved : Rows.HeapFinalsSaid :=
  over
end Go.Proofs.Ytfdcfjjobdnofaa.heapFinals
