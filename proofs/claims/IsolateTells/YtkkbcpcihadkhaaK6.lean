/- A thing moves. -/
import Derived.Test.YtkkbcpcihadkhaaK5
import Derived.Test.YtkkbcpcihadkhaaK4
namespace Go.Proofs.Ytkkbcpcihadkhaa
set_option linter.all false
open Go.Vc Go.Proofs
set_option linter.unusedSimpArgs false
set_option linter.unusedVariables false
set_option maxRecDepth 100000
set_option maxHeartbeats 4000000
attribute [local irreducible] CallW EqK
theorem sends_eq {h : Hs} {who to x : Int} (hz : sendsOf h who to x = 0) : isR h who = true ∧ isR h to = true ∧ isT h x = true ∧ (gr h.rooms to).queue.length < 50 ∧ seesB h who x = true := by
 unfold sendsOf at hz
 split at hz
 ·cases hz
 ·rename_i h1
  split at hz
  ·cases hz
  ·split at hz
   ·cases hz
   ·rename_i h3
    split at hz
    ·cases hz
    ·rename_i h4
     simp only [not_or, Bool.not_eq_false] at h1 h3
     exact ⟨h1.1, h1.2.1, h1.2.2, by omega, h3⟩
theorem own_len {h : Hs} (hok : Hok h) {x : Nat} (hx : x < h.things.length) : (ownA h.things x).length ≤ 400 := Nat.le_trans (List.length_filter_le _ _) (reach_len hok hx)
theorem own_nat {h : Hs} (hok : Hok h) {x : Nat} (hx : x < h.things.length) {i : Nat} (hi : i < (ownA h.things x).length) : ∃ k : Nat, (ownA h.things x)[i] = k ∧ k < h.things.length := by
 have hm : (ownA h.things x)[i] ∈ reachA h.things x := (List.mem_filter.1 (List.getElem_mem hi)).1
 have := reachA_valid hok.items (x := x) ⟨by omega, by omega⟩ _ hm
 exact ⟨(ownA h.things x)[i].toNat, by omega, by omega⟩
theorem move_ok (h : Hs) (hok : Hok h) (who to x : Int) : Meets Try.prog 18 [dH h] (.cons (.ptr 0 [.d]) (.cons (avInt who) (.cons (avInt to) (.cons (avInt x) .nil))))
  fun av X κ => av = avInt (moveOf h who to x).2 ∧ X = [dH (moveOf h who to x).1] ∧ κ = [(0, [.d])] := by
 refine fb Try.func18 Try.ntmps18 [.tmp 8] fun w0 I0 F0 hF => ?_
 repeat first|refine n1 ?_|((first|refine rg 0 [0, 1, 2, 3] [0, 1, 2, 3] [] ?_|refine rg 1 [0, 1, 2, 3] [0, 1, 2, 3, 45] [(3, 15), (8, 20), (14, 26), (26, 38)] ?_);simp (maxSteps := 1000000) [hF])
 by_cases hv : isR h who = true ∧ isR h to = true ∧ isT h x = true
 ·obtain ⟨v1, v2, v3⟩ := hv
  obtain ⟨w, rfl, hwl⟩ := isR_nat v1
  obtain ⟨t, rfl, htl⟩ := isR_nat v2
  obtain ⟨k, rfl, hk⟩ := isT_nat v3
  have hn := dTgs_nth (o := true) hk
  refine (is_c h w).go [(0, [])] (by simp (maxSteps := 1000000) [hF, v1, dH]) ?_;rintro av X κ ⟨rfl, rfl, rfl⟩;simp (maxSteps := 1000000) [hF, v1, dH]
  refine (is_c h t).go [(0, [])] (by simp (maxSteps := 1000000) [hF, v2, dH]) ?_;rintro av X κ ⟨rfl, rfl, rfl⟩;simp (maxSteps := 1000000) [hF, v2, dH]
  by_cases ho : h.things[k].owner = w
  ·refine (has_c1 h true k).go [(0, []), (1, [])] (by simp (maxSteps := 1000000) [hF, v3, dH, hn, hk, ho]) ?_;rintro av X κ ⟨rfl, rfl, rfl⟩;simp (maxSteps := 1000000) [hF, v3, dH, hn, hk, ho]
   have hol := own_len hok hk
   refine (own_c h hok k hk).go [(0, [])] (by simp (maxSteps := 1000000) [hF, dH]) ?_;rintro av X κ ⟨z, rfl, rfl, rfl⟩;simp (maxSteps := 1000000) [hF, dH]
   cases htd : tiedOf h w (ownA h.things k) with
   | true =>
    have hc : moveOf h w t k = (h, 1) := by simp [moveOf, v1, v2, v3, hk, ho, htd]
    refine (tied_c h hok w hwl (ownA h.things k) z false hol).go [(0, []), (2, [])] (by simp (maxSteps := 1000000) [hF, dH, htd]) ?_;rintro av X κ ⟨rfl, rfl, rfl⟩;simp (maxSteps := 1000000) [hF, dH, htd]
    repeat first|refine n1 ?_|((first|refine rg 2 [] [8] [] ?_|refine nc ?_);simp (maxSteps := 1000000) [hF, htd])
    refine VS.widen [(0, [.d])] (by simp [covers, mpre]) ?_
    (try refine nr ?_);(repeat first|refine nb_ ?_|refine nl_ ?_);refine endK.o [8] [0] [(0, [.d])] ?_;simp [hF, retK, covers, mpre, dH, hc]
   | false =>
    refine (tied_c h hok w hwl (ownA h.things k) z false hol).go [(0, []), (2, [])] (by simp (maxSteps := 1000000) [hF, dH, htd]) ?_;rintro av X κ ⟨rfl, rfl, rfl⟩;simp (maxSteps := 1000000) [hF, dH, htd]
    repeat first|refine n1 ?_|refine n2 ?_|((first|refine rg 3 [0, 1, 2, 3] [0, 2, 3, 9] [] ?_|refine nc ?_);simp (maxSteps := 1000000) [hF])
    refine (sends_c h w t k).go [(0, [])] (by simp (maxSteps := 1000000) [hF, dH]) ?_;rintro av X κ ⟨rfl, rfl, rfl⟩;simp (maxSteps := 1000000) [hF, dH]
    by_cases hz : sendsOf h w t k = 0
    ·have hc : moveOf h w t k = (putOf { h with things := paint (ownF t) (ownA h.things k) h.things } t k, 0) := by simp [moveOf, hz, htd]
     repeat first|refine n1 ?_|refine n2 ?_|((first|refine rg 4 [0, 2, 3, 9] [0, 2, 3, 9, 52] [] ?_|refine rg 6 [0, 2, 3] [0, 2, 3, 56, 57, 58] [] ?_|refine nc ?_);simp (maxSteps := 1000000) [hF, hz])
     refine (own_c h hok k hk).go [(0, [])] (by simp (maxSteps := 1000000) [hF, dH]) ?_;rintro av X κ ⟨z2, rfl, rfl, rfl⟩;simp (maxSteps := 1000000) [hF, dH]
     repeat first|refine n3 ?_
     have hcm : (dInts (ownA h.things k ++ z2)).mid 0 (ownA h.things k).length = dInts (ownA h.things k) := by rw [dInts_mid]; simp
     refine VS.cool 56 (by simp (maxSteps := 1000000) [hF, hcm]) ?_;simp [hF, St.cool, hcm]
     refine VS.widen [(0, [.d])] (by simp [covers, mpre]) ?_
     refine VS.pick [0, 2, 3, 56, 57, 58] [0] (by simp [hF]) ?_;simp [hF]
     have hq50 := (sends_eq hz).2.2.2.1
     have hLv : ∀ i, (hi : i < (ownA h.things (k : Int)).length) → ∃ y : Nat, (ownA h.things (k : Int))[i] = y ∧ y < h.things.length := fun i hi => own_nat hok hk hi
     have hol2 := own_len hok hk
     generalize hL : ownA h.things (k : Int) = L at *
     refine VS.rounds (fun m st => ∃ (i : Nat) (P : List Tg), i + m = L.length ∧ P = paint (ownF t) (L.take i) h.things ∧ st = ⟨[(0, .ptr 0 [.d]), (2, avInt t), (3, avInt k), (56, .imm 1 (dInts L) false), (57, avInt L.length), (58, avInt i)], [dH { h with things := P }], [(0, [.d])], []⟩) ⟨L.length, 0, h.things, by omega, by simp [paint_nil], by simp [dH]⟩ ?_
     rintro m st ⟨i, P, hi, hP, rfl⟩
     have hPl : P.length = h.things.length := by simp [hP]
     repeat first|refine n1 ?_|((first|refine rg 7 [0, 2, 3, 56, 57, 58] [0, 2, 3, 56, 57, 58, 59] [] ?_|refine nc ?_);simp (maxSteps := 1000000) [hF])
     refine ⟨fun hlt => ?_, fun hge => ?_⟩
     ·obtain ⟨y, hy, hyl⟩ := hLv i hlt
      have hyP : y < P.length := by omega
      have hn2 := dTgs_nth (o := true) hyP
      have hin : (dInts L).nth i = .val (.int .i64 y) := by rw [dInts_nth hlt, hy]
      have hw2 : IntKind.i64.wrap ((i : Int) + 1) = (i + 1 : Nat) := by rw [IntWalk.i64_in _ (by omega)]; rfl
      have hset := dTgs_set true P y ⟨t, P[y].list, P[y].word, P[y].items, P[y].frozen⟩
      have hst : P.set y ⟨t, P[y].list, P[y].word, P[y].items, P[y].frozen⟩ = paint (ownF t) (L.take (i + 1)) h.things := by
       have e : L.take (i + 1) = L.take i ++ [(y : Int)] := by rw [List.take_add_one, List.getElem?_eq_getElem hlt, hy]; rfl
       rw [e, ← paint_step (f := ownF t) (fun _ => rfl) hyl]
       subst hP; rfl
      repeat first|refine n1 ?_|refine n2 ?_|refine n3 ?_|refine n4 ?_|refine n5 ?_|refine n6 ?_|((first|refine rg 8 [0, 2, 3, 56, 57, 58] [0, 2, 3, 11, 56, 57, 58] [] ?_|refine rg 9 [0, 2, 3, 11, 56, 57, 58] [0, 2, 3, 56, 57, 58] [] ?_|refine rg 10 [0, 2, 3, 56, 57, 58] [0, 2, 3, 56, 57, 58] [] ?_);simp (maxSteps := 1000000) [hF, hin, hlt, dH, hn2, hyP, hyl, hset, hw2])
      refine nextK.of [0, 2, 3, 56, 57, 58] [0] (m - 1) (by omega) (by simp [hF]) ?_
      refine ⟨i + 1, _, by omega, hst, ?_⟩
      simp [dH]
     ·have hPf : P = paint (ownF t) L h.things := by rw [hP, List.take_of_length_le (by omega)]
      rw [gr_at htl] at hq50
      repeat first|refine n1 ?_|refine n7 ?_|(refine rg 11 [0, 2, 3] [] [] ?_;simp (maxSteps := 1000000) [hF])
      refine (put_ok { h with things := P } t k htl (by simp only; omega)).go [(0, [])] (by simp (maxSteps := 1000000) [hF, dH]) ?_;rintro av X κ ⟨rfl, rfl⟩;simp (maxSteps := 1000000) [hF, dH]
      repeat first|refine n1 ?_|(refine rg 12 [] [8] [] ?_;simp (maxSteps := 1000000) [hF])
      refine VS.widen [(0, [.d])] (by simp [covers, mpre]) ?_
      (try refine nr ?_);(repeat first|refine nb_ ?_|refine nl_ ?_);refine endK.o [8] [0] [(0, [.d])] ?_;simp [hF, retK, covers, mpre, dH, hc, hPf]
    ·have hc : moveOf h w t k = (h, sendsOf h w t k) := by simp [moveOf, hz, htd]
     repeat first|refine n1 ?_|((first|refine rg 4 [0, 2, 3, 9] [0, 2, 3, 9, 52] [] ?_|refine rg 5 [9] [8] [] ?_|refine nc ?_);simp (maxSteps := 1000000) [hF, hz])
     refine VS.widen [(0, [.d])] (by simp [covers, mpre]) ?_
     (try refine nr ?_);(repeat first|refine nb_ ?_|refine nl_ ?_);refine endK.o [8] [0] [(0, [.d])] ?_;simp [hF, retK, covers, mpre, dH, hc]
  ·refine (has_c1 h true k).go [(0, []), (1, [])] (by simp (maxSteps := 1000000) [hF, v3, dH, hn, hk, ho]) ?_;rintro av X κ ⟨rfl, rfl, rfl⟩;simp (maxSteps := 1000000) [hF, v3, dH, hn, hk, ho]
   repeat first|refine n1 ?_|refine n2 ?_|((first|refine rg 3 [0, 1, 2, 3] [0, 2, 3, 9] [] ?_|refine nc ?_);simp (maxSteps := 1000000) [hF])
   refine (sends_c h w t k).go [(0, [])] (by simp (maxSteps := 1000000) [hF, dH]) ?_;rintro av X κ ⟨rfl, rfl, rfl⟩;simp (maxSteps := 1000000) [hF, dH]
   by_cases hz : sendsOf h w t k = 0
   ·have hc : moveOf h w t k = (putOf { h with things := paint (ownF t) (ownA h.things k) h.things } t k, 0) := by simp [moveOf, hz, ho, hk]
    repeat first|refine n1 ?_|refine n2 ?_|((first|refine rg 4 [0, 2, 3, 9] [0, 2, 3, 9, 52] [] ?_|refine rg 6 [0, 2, 3] [0, 2, 3, 56, 57, 58] [] ?_|refine nc ?_);simp (maxSteps := 1000000) [hF, hz])
    refine (own_c h hok k hk).go [(0, [])] (by simp (maxSteps := 1000000) [hF, dH]) ?_;rintro av X κ ⟨z2, rfl, rfl, rfl⟩;simp (maxSteps := 1000000) [hF, dH]
    repeat first|refine n3 ?_
    have hcm : (dInts (ownA h.things k ++ z2)).mid 0 (ownA h.things k).length = dInts (ownA h.things k) := by rw [dInts_mid]; simp
    refine VS.cool 56 (by simp (maxSteps := 1000000) [hF, hcm]) ?_;simp [hF, St.cool, hcm]
    refine VS.widen [(0, [.d])] (by simp [covers, mpre]) ?_
    refine VS.pick [0, 2, 3, 56, 57, 58] [0] (by simp [hF]) ?_;simp [hF]
    have hq50 := (sends_eq hz).2.2.2.1
    have hLv : ∀ i, (hi : i < (ownA h.things (k : Int)).length) → ∃ y : Nat, (ownA h.things (k : Int))[i] = y ∧ y < h.things.length := fun i hi => own_nat hok hk hi
    have hol2 := own_len hok hk
    generalize hL : ownA h.things (k : Int) = L at *
    refine VS.rounds (fun m st => ∃ (i : Nat) (P : List Tg), i + m = L.length ∧ P = paint (ownF t) (L.take i) h.things ∧ st = ⟨[(0, .ptr 0 [.d]), (2, avInt t), (3, avInt k), (56, .imm 1 (dInts L) false), (57, avInt L.length), (58, avInt i)], [dH { h with things := P }], [(0, [.d])], []⟩) ⟨L.length, 0, h.things, by omega, by simp [paint_nil], by simp [dH]⟩ ?_
    rintro m st ⟨i, P, hi, hP, rfl⟩
    have hPl : P.length = h.things.length := by simp [hP]
    repeat first|refine n1 ?_|((first|refine rg 7 [0, 2, 3, 56, 57, 58] [0, 2, 3, 56, 57, 58, 59] [] ?_|refine nc ?_);simp (maxSteps := 1000000) [hF])
    refine ⟨fun hlt => ?_, fun hge => ?_⟩
    ·obtain ⟨y, hy, hyl⟩ := hLv i hlt
     have hyP : y < P.length := by omega
     have hn2 := dTgs_nth (o := true) hyP
     have hin : (dInts L).nth i = .val (.int .i64 y) := by rw [dInts_nth hlt, hy]
     have hw2 : IntKind.i64.wrap ((i : Int) + 1) = (i + 1 : Nat) := by rw [IntWalk.i64_in _ (by omega)]; rfl
     have hset := dTgs_set true P y ⟨t, P[y].list, P[y].word, P[y].items, P[y].frozen⟩
     have hst : P.set y ⟨t, P[y].list, P[y].word, P[y].items, P[y].frozen⟩ = paint (ownF t) (L.take (i + 1)) h.things := by
      have e : L.take (i + 1) = L.take i ++ [(y : Int)] := by rw [List.take_add_one, List.getElem?_eq_getElem hlt, hy]; rfl
      rw [e, ← paint_step (f := ownF t) (fun _ => rfl) hyl]
      subst hP; rfl
     repeat first|refine n1 ?_|refine n2 ?_|refine n3 ?_|refine n4 ?_|refine n5 ?_|refine n6 ?_|((first|refine rg 8 [0, 2, 3, 56, 57, 58] [0, 2, 3, 11, 56, 57, 58] [] ?_|refine rg 9 [0, 2, 3, 11, 56, 57, 58] [0, 2, 3, 56, 57, 58] [] ?_|refine rg 10 [0, 2, 3, 56, 57, 58] [0, 2, 3, 56, 57, 58] [] ?_);simp (maxSteps := 1000000) [hF, hin, hlt, dH, hn2, hyP, hyl, hset, hw2])
     refine nextK.of [0, 2, 3, 56, 57, 58] [0] (m - 1) (by omega) (by simp [hF]) ?_
     refine ⟨i + 1, _, by omega, hst, ?_⟩
     simp [dH]
    ·have hPf : P = paint (ownF t) L h.things := by rw [hP, List.take_of_length_le (by omega)]
     rw [gr_at htl] at hq50
     repeat first|refine n1 ?_|refine n7 ?_|(refine rg 11 [0, 2, 3] [] [] ?_;simp (maxSteps := 1000000) [hF])
     refine (put_ok { h with things := P } t k htl (by simp only; omega)).go [(0, [])] (by simp (maxSteps := 1000000) [hF, dH]) ?_;rintro av X κ ⟨rfl, rfl⟩;simp (maxSteps := 1000000) [hF, dH]
     repeat first|refine n1 ?_|(refine rg 12 [] [8] [] ?_;simp (maxSteps := 1000000) [hF])
     refine VS.widen [(0, [.d])] (by simp [covers, mpre]) ?_
     (try refine nr ?_);(repeat first|refine nb_ ?_|refine nl_ ?_);refine endK.o [8] [0] [(0, [.d])] ?_;simp [hF, retK, covers, mpre, dH, hc, hPf]
   ·have hc : moveOf h w t k = (h, sendsOf h w t k) := by simp [moveOf, hz, ho, hk]
    repeat first|refine n1 ?_|((first|refine rg 4 [0, 2, 3, 9] [0, 2, 3, 9, 52] [] ?_|refine rg 5 [9] [8] [] ?_|refine nc ?_);simp (maxSteps := 1000000) [hF, hz])
    refine VS.widen [(0, [.d])] (by simp [covers, mpre]) ?_
    (try refine nr ?_);(repeat first|refine nb_ ?_|refine nl_ ?_);refine endK.o [8] [0] [(0, [.d])] ?_;simp [hF, retK, covers, mpre, dH, hc]
 ·have hz : sendsOf h who to x = 1 := by
   simp only [sendsOf]
   rw [if_pos]
   cases h1 : isR h who <;> cases h2 : isR h to <;> cases h3 : isT h x <;> simp_all
  have hc : moveOf h who to x = (h, 1) := by
   simp only [moveOf, hz]
   rw [if_neg (fun hh => hv ⟨hh.1, hh.2.1, hh.2.2.1⟩)]; rfl
  cases h1 : isR h who with
  | false =>
   refine (is_c h who).go [(0, [])] (by simp (maxSteps := 1000000) [hF, h1, dH]) ?_;rintro av X κ ⟨rfl, rfl, rfl⟩;simp (maxSteps := 1000000) [hF, h1, dH]
   repeat first|refine n1 ?_|refine n2 ?_|((first|refine rg 3 [0, 1, 2, 3] [0, 2, 3, 9] [] ?_|refine nc ?_);simp (maxSteps := 1000000) [hF])
   refine (sends_c h who to x).go [(0, [])] (by simp (maxSteps := 1000000) [hF, hz, dH]) ?_;rintro av X κ ⟨rfl, rfl, rfl⟩;simp (maxSteps := 1000000) [hF, hz, dH]
   repeat first|refine n1 ?_|((first|refine rg 4 [0, 2, 3, 9] [0, 2, 3, 9, 52] [] ?_|refine rg 5 [9] [8] [] ?_|refine nc ?_);simp (maxSteps := 1000000) [hF, hz])
   refine VS.widen [(0, [.d])] (by simp [covers, mpre]) ?_
   (try refine nr ?_);(repeat first|refine nb_ ?_|refine nl_ ?_);refine endK.o [8] [0] [(0, [.d])] ?_;simp [hF, retK, covers, mpre, dH, hc]
  | true =>
   refine (is_c h who).go [(0, [])] (by simp (maxSteps := 1000000) [hF, h1, dH]) ?_;rintro av X κ ⟨rfl, rfl, rfl⟩;simp (maxSteps := 1000000) [hF, h1, dH]
   cases h2 : isR h to with
   | false =>
    refine (is_c h to).go [(0, [])] (by simp (maxSteps := 1000000) [hF, h2, dH]) ?_;rintro av X κ ⟨rfl, rfl, rfl⟩;simp (maxSteps := 1000000) [hF, h2, dH]
    repeat first|refine n1 ?_|refine n2 ?_|((first|refine rg 3 [0, 1, 2, 3] [0, 2, 3, 9] [] ?_|refine nc ?_);simp (maxSteps := 1000000) [hF])
    refine (sends_c h who to x).go [(0, [])] (by simp (maxSteps := 1000000) [hF, hz, dH]) ?_;rintro av X κ ⟨rfl, rfl, rfl⟩;simp (maxSteps := 1000000) [hF, hz, dH]
    repeat first|refine n1 ?_|((first|refine rg 4 [0, 2, 3, 9] [0, 2, 3, 9, 52] [] ?_|refine rg 5 [9] [8] [] ?_|refine nc ?_);simp (maxSteps := 1000000) [hF, hz])
    refine VS.widen [(0, [.d])] (by simp [covers, mpre]) ?_
    (try refine nr ?_);(repeat first|refine nb_ ?_|refine nl_ ?_);refine endK.o [8] [0] [(0, [.d])] ?_;simp [hF, retK, covers, mpre, dH, hc]
   | true =>
    refine (is_c h to).go [(0, [])] (by simp (maxSteps := 1000000) [hF, h2, dH]) ?_;rintro av X κ ⟨rfl, rfl, rfl⟩;simp (maxSteps := 1000000) [hF, h2, dH]
    have h3 : isT h x = false := by
     cases h3 : isT h x with
     | false => rfl
     | true => exact absurd ⟨h1, h2, h3⟩ hv
    refine (has_c1 h true x).go [(0, []), (1, [])] (by simp (maxSteps := 1000000) [hF, h3, dH]) ?_;rintro av X κ ⟨rfl, rfl, rfl⟩;simp (maxSteps := 1000000) [hF, h3, dH]
    repeat first|refine n1 ?_|refine n2 ?_|((first|refine rg 3 [0, 1, 2, 3] [0, 2, 3, 9] [] ?_|refine nc ?_);simp (maxSteps := 1000000) [hF])
    refine (sends_c h who to x).go [(0, [])] (by simp (maxSteps := 1000000) [hF, hz, dH]) ?_;rintro av X κ ⟨rfl, rfl, rfl⟩;simp (maxSteps := 1000000) [hF, hz, dH]
    repeat first|refine n1 ?_|((first|refine rg 4 [0, 2, 3, 9] [0, 2, 3, 9, 52] [] ?_|refine rg 5 [9] [8] [] ?_|refine nc ?_);simp (maxSteps := 1000000) [hF, hz])
    refine VS.widen [(0, [.d])] (by simp [covers, mpre]) ?_
    (try refine nr ?_);(repeat first|refine nb_ ?_|refine nl_ ?_);refine endK.o [8] [0] [(0, [.d])] ?_;simp [hF, retK, covers, mpre, dH, hc]
theorem ixE_bd (l : List Int) (y : Int) : -1 ≤ ixE l y ∧ ixE l y < l.length ∨ ixE l y = -1 := by
 by_cases h : 0 < l.length
 ·exact .inl ⟨ixF_low, ixF_lt⟩
 ·right
  have : l = [] := by cases l with | nil => rfl | cons a l => simp at h
  subst this; rfl
theorem place_ok (l : List Int) (hl : l.length ≤ 400) (first : Nat) (hf : first ≤ 400) (y : Int) : Meets Try.prog 47 [dBox l, dIB first] (.cons (avInt y) (.cons (.ptr 0 [.d]) (.cons (.ptr 1 [.d]) .nil)))
  fun av X κ => av = avInt (placeOf l first y) ∧ X = [dBox l, dIB first] ∧ κ = [] := by
 have hb := ixE_bd l y
 have hE : ixF (fun x => decide (x = y)) l = ixE l y := rfl
 have hw : IntKind.i64.wrap ((first : Int) + ixE l y) = first + ixE l y := IntWalk.i64_in _ (by omega)
 refine fb Try.func47 Try.ntmps47 [.tmp 4] fun w0 I0 F0 hF => ?_
 repeat first|refine n1 ?_|((first|refine rg 0 [0, 1, 2] [0, 1, 2] [] ?_|refine rg 1 [0, 1, 2] [0, 2, 5] [] ?_);simp (maxSteps := 1000000) [hF, dBox, dIB])
 refine (index_ok false l y (by omega)).go [] (by simp (maxSteps := 1000000) [hF, hE]) ?_;rintro av X κ ⟨rfl, rfl, rfl⟩;simp (maxSteps := 1000000) [hF, hE]
 repeat first|refine n1 ?_|((first|refine rg 2 [0, 2, 5] [0, 2, 5, 10] [] ?_|refine nc ?_);simp (maxSteps := 1000000) [hF, hE])
 refine ⟨fun h0 => ?_, fun h0 => ?_⟩
 ·have hc : placeOf l first y = first + ixE l y := by rw [placeOf, if_pos h0]
  repeat first|refine n1 ?_|(refine rg 3 [2, 5] [4] [] ?_;simp (maxSteps := 1000000) [hF, hw])
  (try refine nr ?_);(repeat first|refine nb_ ?_|refine nl_ ?_);refine endK.o [4] [0, 1] [] ?_;simp [hF, retK, covers, mpre, dBox, dIB, hc]
 ·have hc : placeOf l first y = y := by rw [placeOf, if_neg (by omega)]
  repeat first|refine n1 ?_|refine n2 ?_|(refine rg 4 [0] [4] [] ?_;simp (maxSteps := 1000000) [hF])
  (try refine nr ?_);(repeat first|refine nb_ ?_|refine nl_ ?_);refine endK.o [4] [0, 1] [] ?_;simp [hF, retK, covers, mpre, dBox, dIB, hc]
theorem clone_r (ex : Bool) (l : List Int) (hl : l.length ≤ 100000000) : Meets Try.prog 48 [.sl true () 1 (dInts l)] (.cons (.sub 0 [] 0 l.length ex) .nil)
  fun av X κ => av = .sub 1 [] 0 l.length false ∧ X = [.sl true () 1 (dInts l), .sl true () 1 (dInts l)] ∧ κ = [] := by
 have hm : (dInts l).mid 0 l.length = dInts l := by simp
 have e : (AV.cons (.sub 0 [] 0 l.length ex) .nil).chilled (.sl true () 1 (dInts l)) = .cons (.imm 1 (dInts l) ex) .nil := by
  simp only [AV.chilled, hm, freeze_ints]
 refine Meets.mono (Meets.warm (Y := []) (by rw [e]; exact clone_ok ex l hl) ?_) ?_
 ·rintro av X κ ⟨rfl, rfl, rfl⟩
  exact ⟨rfl, by simp [T.allOwn], rfl⟩
 ·rintro av X κ ⟨av0, X0, ⟨rfl, rfl, _⟩, rfl, rfl, rfl⟩
  exact ⟨rfl, rfl, rfl⟩
theorem send_ok (h : Hs) (hok : Hok h) (who to x : Int) : Meets Try.prog 16 [dH h] (.cons (.ptr 0 [.d]) (.cons (avInt who) (.cons (avInt to) (.cons (avInt x) .nil))))
  fun av X κ => av = two (sendOf h who to x).2 ∧ X = [dH (sendOf h who to x).1] ∧ κ = [(0, [.d])] := by
 by_cases hz : sendsOf h who to x = 0
 ·obtain ⟨v1, v2, v3, hq50, _⟩ := sends_eq hz
  obtain ⟨w, rfl, hwl⟩ := isR_nat v1
  obtain ⟨t, rfl, htl⟩ := isR_nat v2
  obtain ⟨k, rfl, hk⟩ := isT_nat v3
  rw [gr_at htl] at hq50
  have hol := own_len hok hk
  have hbd := hok.things
  have hcm : ∀ z, (dInts (ownA h.things k ++ z)).mid 0 (ownA h.things k).length = dInts (ownA h.things k) := fun z => by rw [dInts_mid]; simp
  refine fb Try.func16 Try.ntmps16 [.tmp 8, .tmp 9] fun w0 I0 F0 hF => ?_
  repeat first|refine n1 ?_|((first|refine rg 0 [0, 1, 2, 3] [0, 1, 2, 3] [] ?_|refine rg 1 [0, 1, 2, 3] [0, 2, 3, 10] [] ?_);simp (maxSteps := 1000000) [hF])
  refine (sends_c h w t k).go [(0, [])] (by simp (maxSteps := 1000000) [hF, hz, dH]) ?_;rintro av X κ ⟨rfl, rfl, rfl⟩;simp (maxSteps := 1000000) [hF, hz, dH]
  repeat first|refine n1 ?_|refine n2 ?_|((first|refine rg 2 [0, 2, 3, 10] [0, 2, 3, 10, 25] [] ?_|refine rg 4 [0, 2, 3] [0, 2, 3, 11] [] ?_|refine nc ?_);simp (maxSteps := 1000000) [hF, hz])
  refine (own_c h hok k hk).go [(0, [])] (by simp (maxSteps := 1000000) [hF, dH]) ?_;rintro av X κ ⟨z, rfl, rfl, rfl⟩;simp (maxSteps := 1000000) [hF, dH]
  repeat first|refine n1 ?_
  generalize hL : ownA h.things (k : Int) = L at *
  refine VS.cold 2 [.d] (by simp (maxSteps := 1000000) [hF, T.freeze]) (by simp (maxSteps := 1000000) [hF, T.freeze]) (by simp (maxSteps := 1000000) [hF, T.freeze]) ?_;simp [hF, St.cold, T.freeze]
  have hw1 : IntKind.i64.wrap ((h.things.length : Int) + L.length) = h.things.length + L.length := IntWalk.i64_in _ (by omega)
  by_cases hf : 400 < h.things.length + L.length
  ·have hfi : (400 : Int) < h.things.length + L.length := by omega
   have hc : sendOf h w t k = (h, 0, 9) := by simp [sendOf, hz, hL, hf]
   repeat first|refine n1 ?_|((first|(refine dr 5 0 [0, 2, 3, 11] [0, 2, 3, 11, 38] [] [⟨0, 1, 1073741824, 5⟩, ⟨1, 1073741824, 2147483648, 5⟩, ⟨2, 2147483648, 4294967296, 5⟩, ⟨4, 4294967296, 8589934592, 6⟩, ⟨8, 8589934592, 17179869184, 5⟩, ⟨0, 2048, 34359738368, 6⟩, ⟨32, 34359738368, 68719476736, 5⟩, ⟨80, 85899345920, 137438953472, 5⟩, ⟨128, 137438953472, 274877906944, 5⟩] (.take 0 (.take 1 (.take 2 (.take 3 (.take 4 (.take 5 (.take 6 (.take 7 (.take 8 (.done)))))))))) (.run [0, 1, 2, 3, 4, 5, 6, 7, 8] (.done)) ?_;simp only [drs])|refine rg 6 [] [8, 9] [] ?_|refine nc ?_);simp (maxSteps := 1000000) [hF, dH, hcm, hw1, hfi])
   refine VS.widen [(0, [.d])] (by simp [covers, mpre]) ?_
   (try refine nr ?_);(repeat first|refine nb_ ?_|refine nl_ ?_);refine endK.o [8, 9] [0] [(0, [.d])] ?_;simp [hF, retK, covers, mpre, dH, hc]
  ·have hfi : ¬ (400 : Int) < h.things.length + L.length := by omega
   have hc : sendOf h w t k = (putOf { h with things := h.things ++ L.map fun y => copyT L h.things.length t (gd h.things y) } t (placeOf L h.things.length k), placeOf L h.things.length k, 0) := by simp [sendOf, hz, hL, hf]
   obtain ⟨CS, hCS⟩ : ∃ CS, CS = L.map fun y => copyT L h.things.length t (gd h.things y) := ⟨_, rfl⟩
   rw [← hCS] at hc
   have hCl : CS.length = L.length := by simp [hCS]
   have hLv : ∀ i, (hi : i < L.length) → ∃ y : Nat, L[i] = y ∧ y < h.things.length := by subst hL; exact fun i hi => own_nat hok hk hi
   repeat first|refine n1 ?_|refine n2 ?_|refine n3 ?_|((first|(refine dr 5 0 [0, 2, 3, 11] [0, 2, 3, 11, 38] [] [⟨0, 1, 1073741824, 5⟩, ⟨1, 1073741824, 2147483648, 5⟩, ⟨2, 2147483648, 4294967296, 5⟩, ⟨4, 4294967296, 8589934592, 6⟩, ⟨8, 8589934592, 17179869184, 5⟩, ⟨0, 2048, 34359738368, 6⟩, ⟨32, 34359738368, 68719476736, 5⟩, ⟨80, 85899345920, 137438953472, 5⟩, ⟨128, 137438953472, 274877906944, 5⟩] (.take 0 (.take 1 (.take 2 (.take 3 (.take 4 (.take 5 (.take 6 (.take 7 (.take 8 (.done)))))))))) (.run [0, 1, 2, 3, 4, 5, 6, 7, 8] (.done)) ?_;simp only [drs])|refine rg 7 [0, 2, 3, 11] [0, 2, 3, 11, 12] [] ?_|refine rg 8 [0, 2, 3, 11, 12] [0, 2, 3, 11, 13] [] ?_|refine rg 9 [0, 2, 3, 11, 13] [0, 2, 3, 13, 45, 46, 47] [] ?_|refine nc ?_);simp (maxSteps := 1000000) [hF, dH, hcm, hw1, hfi])
   refine VS.widen [(0, [.d])] (by simp [covers, mpre]) ?_
   refine VS.pick [0, 2, 3, 13, 45, 46, 47] [0, 2, 3] (by simp [hF]) ?_;simp [hF]
   refine VS.rounds (fun m st => ∃ (i : Nat) (P : List Tg), i + m = L.length ∧ P = h.things ++ CS.take i ∧ st = ⟨[(0, .ptr 0 [.d]), (2, avInt t), (3, avInt k), (13, .fn 47 (.cons (.ptr 1 [.d]) (.cons (.ptr 2 [.d]) .nil))), (45, .imm 1 (dInts L) false), (46, avInt L.length), (47, avInt i)],
    [dH { h with things := P }, dBox L, dIB h.things.length], [(0, [.d])], []⟩) ⟨L.length, 0, h.things, by omega, by simp, by simp [dH, dBox, dIB]⟩ ?_
   rintro m st ⟨i, P, hi, hP, rfl⟩
   have hPl : P.length = h.things.length + i := by rw [hP, List.length_append, List.length_take]; omega
   repeat first|refine n1 ?_|((first|refine rg 10 [0, 2, 3, 13, 45, 46, 47] [0, 2, 3, 13, 45, 46, 47, 48] [] ?_|refine nc ?_);simp (maxSteps := 1000000) [hF])
   refine ⟨fun hlt => ?_, fun hge => ?_⟩
   ·obtain ⟨y, hy, hyl⟩ := hLv i hlt
    have hyP : y < P.length := by omega
    have hyi : (y : Int) < P.length := by omega
    have hn2 := dTgs_nth (o := true) hyP
    have hPy : P[y] = h.things[y] := by subst hP; rw [List.getElem_append_left hyl]
    rw [hPy] at hn2
    have hil := hok.few _ (List.getElem_mem hyl)
    have hin : (dInts L).nth i = .val (.int .i64 y) := by rw [dInts_nth hlt, hy]
    obtain ⟨IS, hIS⟩ : ∃ IS, IS = h.things[y].items := ⟨_, rfl⟩
    obtain ⟨MS, hMS⟩ : ∃ MS, MS = IS.map (placeOf L h.things.length) := ⟨_, rfl⟩
    have hMl : MS.length = IS.length := by simp [hMS]
    rw [← hIS] at hn2 hil
    repeat first|refine n1 ?_|refine n2 ?_|refine n3 ?_|((first|refine rg 11 [0, 2, 3, 13, 45, 46, 47] [0, 2, 3, 13, 15, 45, 46, 47] [] ?_|refine rg 12 [0, 2, 3, 13, 15, 45, 46, 47] [0, 2, 3, 13, 16, 45, 46, 47] [] ?_|refine rg 13 [0, 2, 3, 13, 16, 45, 46, 47] [0, 2, 3, 13, 16, 45, 46, 47] [] ?_);simp (maxSteps := 1000000) [hF, hin, hlt, dH, hn2, hyP])
    have hsame := setN_of hn2
    refine (clone_r false IS (by omega)).go [(0, [.d, .f 1, .i y, .f 3])] (by simp (maxSteps := 1000000) [hF, hn2, hyP, hin, hlt, dH, hsame]) ?_;rintro av X κ ⟨rfl, rfl, rfl⟩;simp (maxSteps := 1000000) [hF, hn2, hyP, hin, hlt, dH, hsame]
    repeat first|refine n1 ?_|refine n3 ?_|(refine rg 14 [0, 2, 3, 13, 16, 45, 46, 47] [0, 2, 3, 13, 16, 45, 46, 47, 65, 66, 67] [] ?_;simp (maxSteps := 1000000) [hF, hn2, hyP, hsame])
    refine VS.pick [0, 2, 3, 13, 16, 45, 46, 47, 65, 66, 67] [0, 1, 2, 3] (by simp [hF]) ?_;simp [hF]
    refine VS.rounds (fun m2 st => ∃ (j : Nat) (cur : List Int), j + m2 = IS.length ∧ cur = MS.take j ++ IS.drop j ∧ st = ⟨[(0, .ptr 0 [.d]), (2, avInt t), (3, avInt k), (13, .fn 47 (.cons (.ptr 1 [.d]) (.cons (.ptr 2 [.d]) .nil))), (16, .ptr 3 [.d]), (45, .imm 1 (dInts L) false), (46, avInt L.length), (47, avInt i), (65, .sub 3 [.d, .f 3] 0 IS.length false), (66, avInt IS.length), (67, avInt j)],
     [dH { h with things := P }, dBox L, dIB h.things.length, .box true () (.agg (.cons (.val (.int .i64 t)) (.cons (.val (.bool h.things[y].list)) (.cons (.val (.int .i64 h.things[y].word)) (.cons (.sl true () 1 (dInts cur)) (.cons (.val (.bool h.things[y].frozen)) .nil))))))], [(0, [.d])], []⟩)
     ⟨IS.length, 0, IS, by omega, by simp, by simp [dH]⟩ ?_
    rintro m2 st ⟨j, cur, hj, hcur, rfl⟩
    have hcl : cur.length = IS.length := by rw [hcur, List.length_append, List.length_take, List.length_drop]; omega
    repeat first|refine n1 ?_|((first|refine rg 15 [0, 2, 3, 13, 16, 45, 46, 47, 65, 66, 67] [0, 2, 3, 13, 16, 45, 46, 47, 65, 66, 67, 68] [] ?_|refine nc ?_);simp (maxSteps := 1000000) [hF])
    refine ⟨fun hlt2 => ?_, fun hge2 => ?_⟩
    ·have hjc : j < cur.length := by omega
     have hn3 : (dInts cur).nth j = .val (.int .i64 IS[j]) := by
      rw [dInts_nth hjc]
      have : cur[j]? = some IS[j] := by
       rw [hcur, List.getElem?_append_right (by rw [List.length_take]; omega), List.getElem?_drop, List.getElem?_eq_getElem (by rw [List.length_take]; omega)]
       congr 2; rw [List.length_take]; omega
      rw [(List.getElem_eq_iff _).2 this]
     have hw3 : IntKind.i64.wrap ((j : Int) + 1) = (j + 1 : Nat) := by rw [IntWalk.i64_in _ (by omega)]; rfl
     have hs3 := dInts_set cur j (placeOf L h.things.length IS[j])
     have hcur2 : cur.set j (placeOf L h.things.length IS[j]) = MS.take (j + 1) ++ IS.drop (j + 1) := by
      rw [hcur, List.set_append_right _ _ (by rw [List.length_take]; omega), List.length_take, Nat.min_eq_left (by omega), Nat.sub_self, List.drop_eq_getElem_cons hlt2, List.set_cons_zero, List.take_add_one, List.getElem?_eq_getElem (by omega)]
      simp [hMS]
     have hdec : List.length cur = IS.length := hcl
     repeat first|refine n1 ?_|refine n2 ?_|refine n3 ?_|((first|refine rg 16 [0, 2, 3, 13, 16, 45, 46, 47, 65, 66, 67] [0, 2, 3, 13, 16, 17, 18, 45, 46, 47, 65, 66, 67] [] ?_|(refine dr 17 0 [0, 2, 3, 13, 16, 17, 18, 45, 46, 47, 65, 66, 67] [0, 2, 3, 13, 16, 45, 46, 47, 65, 66, 67] [] [⟨0, 65536, 4722366482869645213696, 5⟩, ⟨1, 4722366482869645213696, 9444732965739290427392, 6⟩, ⟨0, 131072, 18889465931478580854784, 5⟩, ⟨0, 8192, 37778931862957161709568, 5⟩, ⟨0, 262144, 75557863725914323419136, 5⟩, ⟨24, 113336795588871485128704, 151115727451828646838272, 0⟩, ⟨63, 28334198897217871282176, 302231454903657293676544, 5⟩, ⟨127, 453347182355485940514816, 0, 0⟩] (.take 0 (.take 2 (.take 3 (.take 4 (.fork (.alt 1 (.fork (.alt 5 (.take 6 (.fork (.alt 7 (.done) (.nil)))) (.nil))) (.alt 5 (.take 1 (.take 6 (.fork (.alt 7 (.done) (.nil))))) (.nil)))))))) (.run [0, 2, 3, 4] (.both (.run [1, 5, 6, 7] (.done)) (.run [5, 1, 6, 7] (.done)))) ?_;simp only [drs]));simp (maxSteps := 1000000) [hF, hn3, hlt2, hjc, hcl])
     refine ⟨?_, ?_⟩
     ·refine (place_ok L hol h.things.length hbd IS[j]).go [(1, []), (2, [])] (by simp (maxSteps := 1000000) [hF, dBox, dIB, hs3, hn3, hjc, hlt2]) ?_;rintro av X κ ⟨rfl, rfl, rfl⟩;simp (maxSteps := 1000000) [hF, dBox, dIB, hs3, hn3, hjc, hlt2]
      repeat first|refine n4 ?_|refine n5 ?_|refine n6 ?_|(refine rg 18 [0, 2, 3, 13, 16, 45, 46, 47, 65, 66, 67] [0, 2, 3, 13, 16, 45, 46, 47, 65, 66, 67] [] ?_;simp (maxSteps := 1000000) [hF, hs3, hjc, hw3])
      refine nextK.of [0, 2, 3, 13, 16, 45, 46, 47, 65, 66, 67] [0, 1, 2, 3] (m2 - 1) (by omega) (by simp [hF]) ?_
      refine ⟨j + 1, cur.set j (placeOf L h.things.length IS[j]), by omega, hcur2, ?_⟩
      simp [dH, dBox, dIB]
     ·refine (place_ok L hol h.things.length hbd IS[j]).go [(1, []), (2, [])] (by simp (maxSteps := 1000000) [hF, dBox, dIB, hs3, hn3, hjc, hlt2]) ?_;rintro av X κ ⟨rfl, rfl, rfl⟩;simp (maxSteps := 1000000) [hF, dBox, dIB, hs3, hn3, hjc, hlt2]
      repeat first|refine n4 ?_|refine n5 ?_|refine n6 ?_|(refine rg 18 [0, 2, 3, 13, 16, 45, 46, 47, 65, 66, 67] [0, 2, 3, 13, 16, 45, 46, 47, 65, 66, 67] [] ?_;simp (maxSteps := 1000000) [hF, hs3, hjc, hw3])
      refine nextK.of [0, 2, 3, 13, 16, 45, 46, 47, 65, 66, 67] [0, 1, 2, 3] (m2 - 1) (by omega) (by simp [hF]) ?_
      refine ⟨j + 1, cur.set j (placeOf L h.things.length IS[j]), by omega, hcur2, ?_⟩
      simp [dH, dBox, dIB]
    ·have hcf : cur = MS := by rw [hcur, List.take_of_length_le (by omega), List.drop_of_length_le (by omega), List.append_nil]
     subst hcf
     have hcy : copyT L h.things.length t h.things[y] = ⟨t, h.things[y].list, h.things[y].word, cur, h.things[y].frozen⟩ := by rw [copyT, ← hIS, hMS]
     have hP2 : P ++ [⟨(t : Int), h.things[y].list, h.things[y].word, cur, h.things[y].frozen⟩] = h.things ++ CS.take (i + 1) := by
      rw [hP, List.append_assoc, List.take_add_one, List.getElem?_eq_getElem (by omega)]
      simp [hCS, hy, hyl, hcy]
     have hp := tg_app P t h.things[y].list h.things[y].word cur h.things[y].frozen
     have hm := tgs_mid P ⟨t, h.things[y].list, h.things[y].word, cur, h.things[y].frozen⟩
     have hm2 : (dInts cur).mid 0 IS.length = dInts cur := by rw [← hcl]; simp
     have hw4 : IntKind.i64.wrap ((i : Int) + 1) = (i + 1 : Nat) := by rw [IntWalk.i64_in _ (by omega)]; rfl
     have c1 : (P.length + 1) * 56 ≤ 140737488355328 := by omega
     have c2 : P.length ≤ 9223372036854775806 := by omega
     repeat first|refine n7 ?_|refine n8 ?_|refine n0 ?_
     refine VS.pick [0, 2, 3, 13, 16, 45, 46, 47] [0, 1, 2, 3] (by simp [hF]) ?_;simp [hF]
     refine ghostL 3 [.d, .f 3] ?_;simp (maxSteps := 1000000) [hF, St.lift, AV.lift, liftPl, stripP, nodeAV, isNode]
     refine ghostL 0 [.d, .f 1] ?_;simp (maxSteps := 1000000) [hF, St.lift, AV.lift, liftPl, stripP, nodeAV, isNode, dH]
     repeat first|refine n4 ?_|refine n5 ?_|((refine dr 19 0 [0, 2, 3, 13, 16, 45, 46, 47] [0, 2, 3, 13, 45, 46, 47] [] [⟨0, 1, 1208925819614629174706176, 5⟩, ⟨0, 1, 2417851639229258349412352, 5⟩, ⟨2, 2417851639229258349412352, 4835703278458516698824704, 5⟩, ⟨4, 4835703278458516698824704, 9671406556917033397649408, 5⟩, ⟨8, 9671406556917033397649408, 19342813113834066795298816, 6⟩, ⟨0, 65536, 38685626227668133590597632, 6⟩, ⟨32, 38685626227668133590597632, 77371252455336267181195264, 4⟩, ⟨80, 96714065569170333976494080, 154742504910672534362390528, 0⟩, ⟨255, 1208925819614629174706176, 309485009821345068724781056, 5⟩, ⟨511, 309485009821345068724781056, 618970019642690137449562112, 5⟩, ⟨767, 773712524553362671811952640, 0, 0⟩] (.take 0 (.take 1 (.take 2 (.take 3 (.take 4 (.take 5 (.fork (.alt 6 (.fork (.alt 7 (.take 8 (.take 9 (.fork (.alt 10 (.done) (.nil))))) (.nil))) (.nil))))))))) (.run [0, 1, 2, 3, 4, 5, 6, 7, 8, 9, 10] (.done)) ?_;simp only [drs]);simp (maxSteps := 1000000) [hF, hp, hm, hm2, hw4, c1, c2])
     refine VS.widen [(0, [.d])] (by simp [covers, mpre]) ?_
     repeat first|refine n4 ?_|refine n6 ?_|(refine rg 20 [0, 2, 3, 13, 45, 46, 47] [0, 2, 3, 13, 45, 46, 47] [] ?_;simp (maxSteps := 1000000) [hF, hw4])
     refine nextK.of [0, 2, 3, 13, 45, 46, 47] [0, 1, 2] (m - 1) (by omega) (by simp [hF]) ?_
     refine ⟨i + 1, _, by omega, hP2, ?_⟩
     simp [dH]
   ·have hPf : P = h.things ++ CS := by rw [hP, List.take_of_length_le (by omega)]
    repeat first|refine n1 ?_|refine n7 ?_|(refine rg 21 [0, 2, 3, 13] [3, 13] [] ?_;simp (maxSteps := 1000000) [hF])
    refine (place_ok L hol h.things.length hbd k).go [(1, []), (2, [])] (by simp (maxSteps := 1000000) [hF, dBox, dIB]) ?_;rintro av X κ ⟨rfl, rfl, rfl⟩;simp (maxSteps := 1000000) [hF, dBox, dIB]
    refine (put_ok { h with things := P } t (placeOf L h.things.length k) htl (by simp only; omega)).go [(0, [])] (by simp (maxSteps := 1000000) [hF, dH]) ?_;rintro av X κ ⟨rfl, rfl⟩;simp (maxSteps := 1000000) [hF, dH]
    repeat first|refine n1 ?_|(refine rg 22 [3, 13] [8, 9] [] ?_;simp (maxSteps := 1000000) [hF])
    refine (place_ok L hol h.things.length hbd k).go [(1, []), (2, [])] (by simp (maxSteps := 1000000) [hF, dBox, dIB]) ?_;rintro av X κ ⟨rfl, rfl, rfl⟩;simp (maxSteps := 1000000) [hF, dBox, dIB]
    refine VS.widen [(0, [.d])] (by simp [covers, mpre]) ?_
    (try refine nr ?_);(repeat first|refine nb_ ?_|refine nl_ ?_);refine endK.o [8, 9] [0] [(0, [.d])] ?_;simp [hF, retK, covers, mpre, dH, hc, hPf]
 ·have hc : sendOf h who to x = (h, 0, sendsOf h who to x) := by simp [sendOf, hz]
  refine fb Try.func16 Try.ntmps16 [.tmp 8, .tmp 9] fun w0 I0 F0 hF => ?_
  repeat first|refine n1 ?_|((first|refine rg 0 [0, 1, 2, 3] [0, 1, 2, 3] [] ?_|refine rg 1 [0, 1, 2, 3] [0, 2, 3, 10] [] ?_);simp (maxSteps := 1000000) [hF])
  refine (sends_c h who to x).go [(0, [])] (by simp (maxSteps := 1000000) [hF, hz, dH]) ?_;rintro av X κ ⟨rfl, rfl, rfl⟩;simp (maxSteps := 1000000) [hF, hz, dH]
  repeat first|refine n1 ?_|((first|refine rg 2 [0, 2, 3, 10] [0, 2, 3, 10, 25] [] ?_|refine rg 3 [10] [8, 9] [] ?_|refine nc ?_);simp (maxSteps := 1000000) [hF, hz])
  refine VS.widen [(0, [.d])] (by simp [covers, mpre]) ?_
  (try refine nr ?_);(repeat first|refine nb_ ?_|refine nl_ ?_);refine endK.o [8, 9] [0] [(0, [.d])] ?_;simp [hF, retK, covers, mpre, dH, hc]
@[simp] theorem own_cls (l : List Cl) : (dCls l).allOwn = true := own_sq fun x hx => by obtain ⟨c, _, rfl⟩ := List.mem_map.1 hx; simp [dCl, T.allOwn]
theorem own_rms (l : List Rm) : (dRms true l).allOwn = true := own_sq fun x hx => by obtain ⟨c, _, rfl⟩ := List.mem_map.1 hx; simp [dRm, T.allOwn]
theorem own_tgs (l : List Tg) : (dTgs true l).allOwn = true := own_sq fun x hx => by obtain ⟨c, _, rfl⟩ := List.mem_map.1 hx; simp [dTg, T.allOwn]
@[simp] theorem own_dH (h : Hs) : (dH h).allOwn = true := by simp [dH, T.allOwn, own_rms, own_tgs]
theorem list_r (h : Hs) (hl : h.things.length ≤ 400) (who : Int) (l z : List Int) (ex : Bool) (hll : l.length ≤ 100000000) : Meets Try.prog 32 [.sl true () 1 (dInts (l ++ z)), dH h] (.cons (.ptr 1 [.d]) (.cons (avInt who) (.cons (.sub 0 [] 0 l.length ex) .nil)))
  fun av X κ => av = two (listOf h who l).2 ∧ X = [.sl true () 1 (dInts (l ++ z)), dH (listOf h who l).1] ∧ κ = [(1, [.d])] := by
 have hm : (dInts (l ++ z)).mid 0 l.length = dInts l := by rw [dInts_mid]; simp
 have e : (AV.cons (.ptr 1 [.d]) (.cons (avInt who) (.cons (.sub 0 [] 0 l.length ex) .nil))).chilled (.sl true () 1 (dInts (l ++ z))) = .cons (.ptr 0 [.d]) (.cons (avInt who) (.cons (.imm 1 (dInts l) ex) .nil)) := by
  simp only [AV.chilled, hm, freeze_ints]
 refine Meets.mono (Meets.warmK (Y := [dH h]) (by rw [e]; exact list_ok h hl who l ex hll) ?_) ?_
 ·rintro av X κ ⟨rfl, rfl, rfl⟩
  exact ⟨rfl, by simp⟩
 ·rintro av X κ ⟨av0, X0, κ0, ⟨rfl, rfl, rfl⟩, rfl, rfl, rfl⟩
  exact ⟨rfl, rfl, rfl⟩
def dRmsN (n : Nat) (l : List Rm) : D := sq (l.mapIdx fun i r => dRm (decide (i < n)) r)
def dTgsN (n : Nat) (l : List Tg) : D := sq (l.mapIdx fun i t => dTg (decide (i < n)) t)
@[simp] theorem dRmsN_len (n : Nat) (l : List Rm) : (dRmsN n l).len = l.length := by simp [dRmsN]
@[simp] theorem dTgsN_len (n : Nat) (l : List Tg) : (dTgsN n l).len = l.length := by simp [dTgsN]
end Go.Proofs.Ytkkbcpcihadkhaa

/- How the document's houses are laid. -/
namespace Go.Proofs.Ytkkbcpcihadkhaa
set_option linter.all false
open Go.Vc Go.Proofs
def eRm (o : Bool) (r : Rm) : D := .agg (.cons (.val (.bool r.over)) (.cons (.sl o () 1 (dInts r.queue)) .nil))
def eTg (o : Bool) (t : Tg) : D := .agg (.cons (.val (.bool t.list)) (.cons (.val (.bool t.frozen)) (.cons (.val (.int .i64 t.word)) (.cons (.val (.int .i64 t.owner)) (.cons (.sl o () 1 (dInts t.items)) .nil)))))
def eRms (o : Bool) (l : List Rm) : D := sq (l.map (eRm o))
def eTgs (o : Bool) (l : List Tg) : D := sq (l.map (eTg o))
def eRmF (b : Bool) (r : Rm) : D := .agg (.cons (.val (.bool r.over)) (.cons (.sl b () 1 (dInts r.queue)) .nil))
def eRmsF (fl : Nat → Bool) (l : List Rm) : D := sq (l.mapIdx fun i r => eRmF (fl i) r)
def eH (h : Hs) (fl : Nat → Bool) : D := .box true () (.agg (.cons (.val (.bool true)) (.cons (.sl true () 2 (eRmsF fl h.rooms)) (.cons (.sl true () 5 (eTgs true h.things)) .nil))))
def eHI (h : Hs) : D := .agg (.cons (.val (.bool true)) (.cons (.sl false () 2 (eRms false h.rooms)) (.cons (.sl false () 5 (eTgs false h.things)) .nil)))
abbrev avE (h : Hs) : AV := .iptr (eHI h)
@[simp high] theorem head_eH (h : Hs) (fl : Nat → Bool) : isHead (eH h fl) = true := by rw [eH, isHead]
@[simp] theorem eRms_len (o : Bool) (l : List Rm) : (eRms o l).len = l.length := by simp [eRms]
@[simp] theorem eTgs_len (o : Bool) (l : List Tg) : (eTgs o l).len = l.length := by simp [eTgs]
@[simp] theorem eRms_free (l : List Rm) : (eRms false l).free = true := sq_free fun x hx => by obtain ⟨n, _, rfl⟩ := List.mem_map.1 hx; simp [eRm]
@[simp] theorem eTgs_free (l : List Tg) : (eTgs false l).free = true := sq_free fun x hx => by obtain ⟨n, _, rfl⟩ := List.mem_map.1 hx; simp [eTg]
theorem eRms_nth {o : Bool} {l : List Rm} {i : Nat} (h : i < l.length) : (eRms o l).nth i = .agg (.cons (.val (.bool l[i].over)) (.cons (.sl o () 1 (dInts l[i].queue)) .nil)) := by
  rw [eRms, sq_nth_lt (by simpa using h)]; simp; rfl
theorem eTgs_nth {o : Bool} {l : List Tg} {i : Nat} (h : i < l.length) : (eTgs o l).nth i = .agg (.cons (.val (.bool l[i].list)) (.cons (.val (.bool l[i].frozen)) (.cons (.val (.int .i64 l[i].word)) (.cons (.val (.int .i64 l[i].owner)) (.cons (.sl o () 1 (dInts l[i].items)) .nil))))) := by
  rw [eTgs, sq_nth_lt (by simpa using h)]; simp; rfl
theorem eTgs_set (o : Bool) (l : List Tg) (i : Nat) (ow : Int) (li : Bool) (w : Int) (its : List Int) (f : Bool) : (eTgs o l).setN i (.agg (.cons (.val (.bool li)) (.cons (.val (.bool f)) (.cons (.val (.int .i64 w)) (.cons (.val (.int .i64 ow)) (.cons (.sl o () 1 (dInts its)) .nil)))))) = eTgs o (l.set i ⟨ow, li, w, its, f⟩) := by
  simp only [eTgs, sq_setN, List.map_set]; rfl
theorem eTgs_push (o : Bool) (l : List Tg) (ow : Int) (li : Bool) (w : Int) (its : List Int) (f : Bool) : (eTgs o l).app (.cons (.agg (.cons (.val (.bool li)) (.cons (.val (.bool f)) (.cons (.val (.int .i64 w)) (.cons (.val (.int .i64 ow)) (.cons (.sl o () 1 (dInts its)) .nil)))))) .nil) = eTgs o (l ++ [⟨ow, li, w, its, f⟩]) := by
  simp only [eTgs, List.map_append, ← sq_app]; rfl
@[simp] theorem eRms_mid_all (o : Bool) (l : List Rm) : (eRms o l).mid 0 l.length = eRms o l := sq_mid_all _ _ (by simp)
@[simp] theorem eTgs_mid_all (o : Bool) (l : List Tg) : (eTgs o l).mid 0 l.length = eTgs o l := sq_mid_all _ _ (by simp)
theorem freeze_eTgs (l : List Tg) : (eTgs true l).freeze = eTgs false l := by
  rw [eTgs, freeze_sq, eTgs, List.map_map]
  congr 1
  exact List.map_congr_left fun r _ => by simp [eTg, T.freeze]
@[simp] theorem eRmsF_len (fl : Nat → Bool) (l : List Rm) : (eRmsF fl l).len = l.length := by simp [eRmsF]
theorem eRmsF_nth {fl : Nat → Bool} {l : List Rm} {i : Nat} (h : i < l.length) : (eRmsF fl l).nth i = .agg (.cons (.val (.bool l[i].over)) (.cons (.sl (fl i) () 1 (dInts l[i].queue)) .nil)) := by
  rw [eRmsF, sq_nth_lt (by simpa using h)]; simp; rfl
def flSet (fl : Nat → Bool) (i : Nat) (b : Bool) : Nat → Bool := fun j => if j = i then b else fl j
theorem eRmsF_set (fl : Nat → Bool) (l : List Rm) (i : Nat) (q : List Int) (ov b : Bool) : (eRmsF fl l).setN i (.agg (.cons (.val (.bool ov)) (.cons (.sl b () 1 (dInts q)) .nil))) = eRmsF (flSet fl i b) (l.set i ⟨q, ov⟩) := by
  rw [eRmsF, sq_setN, eRmsF]
  congr 1
  refine List.ext_getElem (by simp) fun j h1 h2 => ?_
  rw [List.getElem_set, List.getElem_mapIdx]
  by_cases e : i = j
  · subst e; simp [flSet, eRmF]
  · have e' : ¬ j = i := fun h => e h.symm
    rw [if_neg e, List.getElem_mapIdx, List.getElem_set, if_neg e, flSet, if_neg e']
theorem eRmsF_true (l : List Rm) : eRmsF (fun _ => true) l = eRms true l := by
  rw [eRmsF, eRms]
  congr 1
  refine List.ext_getElem (by simp) fun j h1 h2 => ?_
  simp; rfl
theorem freeze_eRmsF (fl : Nat → Bool) (l : List Rm) : (eRmsF fl l).freeze = eRms false l := by
  rw [eRmsF, freeze_sq, eRms]
  congr 1
  refine List.ext_getElem (by simp) fun j h1 h2 => ?_
  simp [eRmF, eRm, T.freeze]
theorem freeze_eH (h : Hs) (fl : Nat → Bool) : ∃ d, eH h fl = .box true () d ∧ d.freeze = eHI h := ⟨_, rfl, by simp only [T.freeze, eHI, freeze_eRmsF, freeze_eTgs]⟩
theorem chillE {h : Hs} {fl : Nat → Bool} {t : AV} : (AV.cons (.ptr 0 [.d]) t).chilled (eH h fl) = .cons (avE h) (t.chilled (eH h fl)) := by
  obtain ⟨d, h1, h2⟩ := freeze_eH h fl
  rw [AV.chilled]
  congr 1
  rw [h1, AV.chilled, h2]
theorem warmE {f : FuncId} {h : Hs} {fl : Nat → Bool} {Y Z : List D} {t t0 a a' : AV} (hm : Meets Try.prog f Y (.cons (avE h) t0) fun av X κ => av = a ∧ X = Z ∧ κ = []) (ht : t.chilled (eH h fl) = t0) (ha : a.plain = true) (hZ : ∀ x ∈ Z, x.allOwn = true) (he : a.emb [] 1 = a') :
    Meets Try.prog f (eH h fl :: Y) (.cons (.ptr 0 [.d]) t) fun av X κ => av = a' ∧ X = eH h fl :: Z ∧ κ = [] := by
  have e : (AV.cons (.ptr 0 [.d]) t).chilled (eH h fl) = .cons (avE h) t0 := by rw [chillE, ht]
  refine Meets.mono (Meets.warm (d0 := eH h fl) (Y := Y) (t := .cons (.ptr 0 [.d]) t) (by rw [e]; exact hm) ?_) ?_
  · rintro av X κ ⟨rfl, rfl, rfl⟩
    exact ⟨ha, hZ, rfl⟩
  · rintro av X κ ⟨av0, X0, ⟨rfl, rfl, _⟩, rfl, rfl, rfl⟩
    exact ⟨he, rfl, rfl⟩
def stateOf (h : Hs) (who : Int) (l : List Int) : Int := if overB h who = true then 8 else if l.all (seesB h who) = false then 3 else 0
def itemB (h : Hs) (x i : Int) : Bool := isT h x && (gd h.things x).list && decide (0 ≤ i) && decide (i < (gd h.things x).items.length)
end Go.Proofs.Ytkkbcpcihadkhaa

/- What is asked of the document's house. -/
namespace Go.Proofs.Ytkkbcpcihadkhaa
set_option linter.all false
open Go.Vc Go.Proofs
set_option linter.unusedSimpArgs false
set_option linter.unusedVariables false
set_option maxRecDepth 100000
set_option maxHeartbeats 4000000
attribute [local irreducible] CallW EqK
theorem ewho_ok (h : Hs) (who : Int) : Meets Try.prog 86 [] (.cons (avE h) (.cons (avInt who) .nil)) fun av X κ => av = avBool (isR h who) ∧ X = [] ∧ κ = [] := by
 refine fb Try.func86 Try.ntmps86 [.tmp 4] fun w0 I0 F0 hF => ?_
 by_cases h1 : 0 ≤ who
 ·by_cases h2 : who < h.rooms.length
  ·repeat first|refine n1 ?_|((first|refine rg 0 [0, 1] [0, 1] [] ?_|refine rg 1 [0, 1] [4] [(2, 7), (8, 13), (12, 17)] ?_);simp (maxSteps := 1000000) [hF, eHI, h1, h2])
   (try refine nr ?_);(repeat first|refine nb_ ?_|refine nl_ ?_);refine endK.o [4] [] [] ?_;simp [hF, retK, covers, mpre, isR, h1, h2]
  ·repeat first|refine n1 ?_|((first|refine rg 0 [0, 1] [0, 1] [] ?_|refine rg 1 [0, 1] [4] [(2, 7), (8, 13), (12, 17)] ?_);simp (maxSteps := 1000000) [hF, eHI, h1, h2])
   (try refine nr ?_);(repeat first|refine nb_ ?_|refine nl_ ?_);refine endK.o [4] [] [] ?_;simp [hF, retK, covers, mpre, isR, h1, h2]
 ·repeat first|refine n1 ?_|((first|refine rg 0 [0, 1] [0, 1] [] ?_|refine rg 1 [0, 1] [4] [(2, 7), (8, 13), (12, 17)] ?_);simp (maxSteps := 1000000) [hF, eHI, h1])
  (try refine nr ?_);(repeat first|refine nb_ ?_|refine nl_ ?_);refine endK.o [4] [] [] ?_;simp [hF, retK, covers, mpre, isR, h1]
theorem ething_ok (h : Hs) (x : Int) : Meets Try.prog 91 [] (.cons (avE h) (.cons (avInt x) .nil)) fun av X κ => av = avBool (isT h x) ∧ X = [] ∧ κ = [] := by
 refine fb Try.func91 Try.ntmps91 [.tmp 4] fun w0 I0 F0 hF => ?_
 by_cases h1 : 0 ≤ x
 ·by_cases h2 : x < h.things.length
  ·repeat first|refine n1 ?_|((first|refine rg 0 [0, 1] [0, 1] [] ?_|refine rg 1 [0, 1] [4] [(2, 7), (8, 13), (12, 17)] ?_);simp (maxSteps := 1000000) [hF, eHI, h1, h2])
   (try refine nr ?_);(repeat first|refine nb_ ?_|refine nl_ ?_);refine endK.o [4] [] [] ?_;simp [hF, retK, covers, mpre, isT, h1, h2]
  ·repeat first|refine n1 ?_|((first|refine rg 0 [0, 1] [0, 1] [] ?_|refine rg 1 [0, 1] [4] [(2, 7), (8, 13), (12, 17)] ?_);simp (maxSteps := 1000000) [hF, eHI, h1, h2])
   (try refine nr ?_);(repeat first|refine nb_ ?_|refine nl_ ?_);refine endK.o [4] [] [] ?_;simp [hF, retK, covers, mpre, isT, h1, h2]
 ·repeat first|refine n1 ?_|((first|refine rg 0 [0, 1] [0, 1] [] ?_|refine rg 1 [0, 1] [4] [(2, 7), (8, 13), (12, 17)] ?_);simp (maxSteps := 1000000) [hF, eHI, h1])
  (try refine nr ?_);(repeat first|refine nb_ ?_|refine nl_ ?_);refine endK.o [4] [] [] ?_;simp [hF, retK, covers, mpre, isT, h1]
theorem ethings_ok (h : Hs) (ex : Bool) (l : List Int) (hl : l.length ≤ 100000000) : Meets Try.prog 89 [] (.cons (avE h) (.cons (.imm 1 (dInts l) ex) .nil)) fun av X κ => av = avBool (l.all (isT h)) ∧ X = [] ∧ κ = [] := by
 refine fb Try.func89 Try.ntmps89 [.tmp 4] fun w0 I0 F0 hF => ?_
 repeat first|refine n1 ?_|refine n3 ?_|((first|refine rg 0 [0, 1] [0, 1] [] ?_|refine rg 1 [0, 1] [0, 1, 5] [] ?_);simp (maxSteps := 1000000) [hF])
 refine VS.rounds (fun m st => ∃ (i : Nat), i + m = l.length ∧ (∀ j, (h' : j < l.length) → j < i → isT h l[j] = true) ∧ st = ⟨[(0, avE h), (1, .imm 1 (dInts l) ex), (5, avInt i)], [], [], []⟩) ⟨l.length, 0, by omega, by omega, by simp⟩ ?_
 rintro m st ⟨i, hi, hall, rfl⟩
 repeat first|refine n1 ?_|((first|refine rg 2 [0, 1, 5] [0, 1, 5, 9] [] ?_|refine nc ?_);simp (maxSteps := 1000000) [hF])
 refine ⟨fun hlt => ?_, fun hge => ?_⟩
 ·have hn := dInts_nth hlt
  have hw1 : IntKind.i64.wrap ((i : Int) + 1) = (i + 1 : Nat) := by rw [IntWalk.i64_in _ (by omega)]; rfl
  repeat first|refine n1 ?_|refine n2 ?_|refine n3 ?_|(refine rg 4 [0, 1, 5] [0, 1, 5, 18] [] ?_;simp (maxSteps := 1000000) [hF, hn, hlt])
  cases ht : isT h l[i] with
  | false =>
   have hc : l.all (isT h) = false := by
    rw [List.all_eq_false]; exact ⟨_, List.getElem_mem hlt, by simp [ht]⟩
   refine (ething_ok h l[i]).go [] (by simp (maxSteps := 1000000) [hF, ht]) ?_;rintro av X κ ⟨rfl, rfl, rfl⟩;simp (maxSteps := 1000000) [hF, ht]
   repeat first|refine n1 ?_|((first|refine rg 5 [] [4] [] ?_|refine nc ?_);simp (maxSteps := 1000000) [hF])
   (try refine nr ?_);(repeat first|refine nb_ ?_|refine nl_ ?_);refine endK.o [4] [] [] ?_;simp [hF, retK, covers, mpre, hc]
  | true =>
   refine (ething_ok h l[i]).go [] (by simp (maxSteps := 1000000) [hF, ht]) ?_;rintro av X κ ⟨rfl, rfl, rfl⟩;simp (maxSteps := 1000000) [hF, ht]
   repeat first|refine n2 ?_|refine n4 ?_|refine n5 ?_|refine n6 ?_|((first|refine rg 3 [0, 1, 5] [0, 1, 5] [] ?_|refine nc ?_);simp (maxSteps := 1000000) [hF, hw1])
   refine nextK.of [0, 1, 5] [] (m - 1) (by omega) (by simp [hF]) ?_
   refine ⟨i + 1, by omega, fun j h' hj => ?_, by simp⟩
   rcases Nat.lt_or_ge j i with h2 | h2
   ·exact hall j h' h2
   ·obtain rfl : j = i := by omega
    exact ht
 ·have hc : l.all (isT h) = true := by
   rw [List.all_eq_true]
   intro x hx
   obtain ⟨j, hj, rfl⟩ := List.getElem_of_mem hx
   exact hall j hj (by omega)
  repeat first|refine n1 ?_|refine n7 ?_|(refine rg 6 [] [4] [] ?_;simp (maxSteps := 1000000) [hF])
  (try refine nr ?_);(repeat first|refine nb_ ?_|refine nl_ ?_);refine endK.o [4] [] [] ?_;simp [hF, retK, covers, mpre, hc]
theorem esees_ok (h : Hs) (who : Int) (x : Nat) (hx : x < h.things.length) : Meets Try.prog 101 [] (.cons (avE h) (.cons (avInt who) (.cons (avInt x) .nil))) fun av X κ => av = avBool (seesB h who x) ∧ X = [] ∧ κ = [] := by
 have hn := eTgs_nth (o := false) hx
 have hg : h.things[x]?.getD ⟨-2, false, 0, [], false⟩ = h.things[x] := by simp [hx]
 have hw : IntKind.i64.wrap (-1) = -1 := by decide
 refine fb Try.func101 Try.ntmps101 [.tmp 6] fun w0 I0 F0 hF => ?_
 by_cases h1 : h.things[x].owner = who
 ·repeat first|refine n1 ?_|((first|refine rg 0 [0, 1, 2] [0, 1, 2] [] ?_|refine rg 1 [0, 1, 2] [1, 7] [] ?_|refine rg 2 [1, 7] [6] [(3, 19)] ?_);simp (maxSteps := 1000000) [hF, eHI, hn, hx, h1])
  (try refine nr ?_);(repeat first|refine nb_ ?_|refine nl_ ?_);refine endK.o [6] [] [] ?_;simp [hF, retK, covers, mpre, seesB, hg, h1]
 ·repeat first|refine n1 ?_|((first|refine rg 0 [0, 1, 2] [0, 1, 2] [] ?_|refine rg 1 [0, 1, 2] [1, 7] [] ?_|refine rg 2 [1, 7] [6] [(3, 19)] ?_);simp (maxSteps := 1000000) [hF, eHI, hn, hx, h1])
  (try refine nr ?_);(repeat first|refine nb_ ?_|refine nl_ ?_);refine endK.o [6] [] [] ?_;simp [hF, retK, covers, mpre, seesB, hg, h1]
theorem estate_ok (h : Hs) (who : Nat) (hk : who < h.rooms.length) (ex : Bool) (l : List Int) (hl : l.length ≤ 100000000) (hv : ∀ x ∈ l, isT h x = true) : Meets Try.prog 87 [] (.cons (avE h) (.cons (avInt who) (.cons (.imm 1 (dInts l) ex) .nil)))
  fun av X κ => av = avInt (stateOf h who l) ∧ X = [] ∧ κ = [] := by
 have hn := eRms_nth (o := false) hk
 have hov : overB h who = h.rooms[who].over := by simp [overB, hk]
 cases ho : h.rooms[who].over with
 | true =>
  rw [ho] at hn
  have hc : stateOf h who l = 8 := by simp [stateOf, hov, ho]
  refine fb Try.func87 Try.ntmps87 [.tmp 6] fun w0 I0 F0 hF => ?_
  repeat first|refine n1 ?_|((first|refine rg 0 [0, 1, 2] [0, 1, 2] [] ?_|refine rg 1 [0, 1, 2] [0, 1, 2, 15] [] ?_|refine rg 2 [] [6] [] ?_|refine nc ?_);simp (maxSteps := 1000000) [hF, eHI, hn, hk])
  (try refine nr ?_);(repeat first|refine nb_ ?_|refine nl_ ?_);refine endK.o [6] [] [] ?_;simp [hF, retK, covers, mpre, hc]
 | false =>
  rw [ho] at hn
  refine fb Try.func87 Try.ntmps87 [.tmp 6] fun w0 I0 F0 hF => ?_
  repeat first|refine n1 ?_|refine n2 ?_|refine n3 ?_|((first|refine rg 0 [0, 1, 2] [0, 1, 2] [] ?_|refine rg 1 [0, 1, 2] [0, 1, 2, 15] [] ?_|refine rg 3 [0, 1, 2] [0, 1, 2, 7] [] ?_|refine nc ?_);simp (maxSteps := 1000000) [hF, eHI, hn, hk])
  refine VS.rounds (fun m st => ∃ (i : Nat), i + m = l.length ∧ (∀ j, (h' : j < l.length) → j < i → seesB h who l[j] = true) ∧ st = ⟨[(0, avE h), (1, avInt who), (2, .imm 1 (dInts l) ex), (7, avInt i)], [], [], []⟩) ⟨l.length, 0, by omega, by omega, by simp [eHI]⟩ ?_
  rintro m st ⟨i, hi, hall, rfl⟩
  repeat first|refine n1 ?_|((first|refine rg 4 [0, 1, 2, 7] [0, 1, 2, 7, 19] [] ?_|refine nc ?_);simp (maxSteps := 1000000) [hF])
  refine ⟨fun hlt => ?_, fun hge => ?_⟩
  ·obtain ⟨x, hx, hxl⟩ := isT_nat (hv _ (List.getElem_mem hlt))
   have hn2 := dInts_nth hlt
   rw [hx] at hn2
   have hw1 : IntKind.i64.wrap ((i : Int) + 1) = (i + 1 : Nat) := by rw [IntWalk.i64_in _ (by omega)]; rfl
   repeat first|refine n1 ?_|refine n2 ?_|refine n3 ?_|(refine rg 6 [0, 1, 2, 7] [0, 1, 2, 7, 29] [] ?_;simp (maxSteps := 1000000) [hF, hn2, hlt])
   cases hs : seesB h who (x : Int) with
   | false =>
    have hc : stateOf h who l = 3 := by
     have : l.all (seesB h who) = false := by rw [List.all_eq_false]; exact ⟨_, List.getElem_mem hlt, by rw [hx, hs]; simp⟩
     simp [stateOf, hov, ho, this]
    refine (esees_ok h who x hxl).go [] (by simp (maxSteps := 1000000) [hF, hs]) ?_;rintro av X κ ⟨rfl, rfl, rfl⟩;simp (maxSteps := 1000000) [hF, hs]
    repeat first|refine n1 ?_|((first|refine rg 7 [] [6] [] ?_|refine nc ?_);simp (maxSteps := 1000000) [hF])
    (try refine nr ?_);(repeat first|refine nb_ ?_|refine nl_ ?_);refine endK.o [6] [] [] ?_;simp [hF, retK, covers, mpre, hc]
   | true =>
    refine (esees_ok h who x hxl).go [] (by simp (maxSteps := 1000000) [hF, hs]) ?_;rintro av X κ ⟨rfl, rfl, rfl⟩;simp (maxSteps := 1000000) [hF, hs]
    repeat first|refine n2 ?_|refine n4 ?_|refine n5 ?_|refine n6 ?_|((first|refine rg 5 [0, 1, 2, 7] [0, 1, 2, 7] [] ?_|refine nc ?_);simp (maxSteps := 1000000) [hF, hw1])
    refine nextK.of [0, 1, 2, 7] [] (m - 1) (by omega) (by simp [hF]) ?_
    refine ⟨i + 1, by omega, fun j h' hj => ?_, by simp⟩
    rcases Nat.lt_or_ge j i with h2 | h2
    ·exact hall j h' h2
    ·obtain rfl : j = i := by omega
     rw [hx, hs]
  ·have hc : stateOf h who l = 0 := by
    have : l.all (seesB h who) = true := by
     rw [List.all_eq_true]
     intro x hx
     obtain ⟨j, hj, rfl⟩ := List.getElem_of_mem hx
     exact hall j hj (by omega)
    simp [stateOf, hov, ho, this]
   repeat first|refine n1 ?_|refine n7 ?_|(refine rg 8 [] [6] [] ?_;simp (maxSteps := 1000000) [hF])
   (try refine nr ?_);(repeat first|refine nb_ ?_|refine nl_ ?_);refine endK.o [6] [] [] ?_;simp [hF, retK, covers, mpre, hc]
theorem eitem_ok (h : Hs) (x i : Int) : Meets Try.prog 90 [] (.cons (avE h) (.cons (avInt x) (.cons (avInt i) .nil))) fun av X κ => av = avBool (itemB h x i) ∧ X = [] ∧ κ = [] := by
 refine fb Try.func90 Try.ntmps90 [.tmp 6] fun w0 I0 F0 hF => ?_
 repeat first|refine n1 ?_|((first|refine rg 0 [0, 1, 2] [0, 1, 2] [] ?_|refine rg 1 [0, 1, 2] [6] [(3, 10), (13, 20), (17, 24)] ?_);simp (maxSteps := 1000000) [hF])
 cases ht : isT h x with
 | false =>
  have hc : itemB h x i = false := by simp [itemB, ht]
  refine (ething_ok h x).go [] (by simp (maxSteps := 1000000) [hF, ht]) ?_;rintro av X κ ⟨rfl, rfl, rfl⟩;simp (maxSteps := 1000000) [hF, ht]
  (try refine nr ?_);(repeat first|refine nb_ ?_|refine nl_ ?_);refine endK.o [6] [] [] ?_;simp [hF, retK, covers, mpre, hc]
 | true =>
  obtain ⟨k, rfl, hk⟩ := isT_nat ht
  have hn := eTgs_nth (o := false) hk
  cases hl : h.things[k].list with
  | false =>
   rw [hl] at hn
   have hc : itemB h k i = false := by simp [itemB, ht, hk, hl]
   refine (ething_ok h k).go [] (by simp (maxSteps := 1000000) [hF, ht, eHI, hn, hk]) ?_;rintro av X κ ⟨rfl, rfl, rfl⟩;simp (maxSteps := 1000000) [hF, ht, eHI, hn, hk]
   (try refine nr ?_);(repeat first|refine nb_ ?_|refine nl_ ?_);refine endK.o [6] [] [] ?_;simp [hF, retK, covers, mpre, hc]
  | true =>
   rw [hl] at hn
   by_cases h1 : 0 ≤ i
   ·by_cases h2 : i < (h.things[k].items.length : Int)
    ·have hc : itemB h k i = true := by simp [itemB, ht, hk, hl, h1, h2]
     refine (ething_ok h k).go [] (by simp (maxSteps := 1000000) [hF, ht, eHI, hn, hk, h1, h2]) ?_;rintro av X κ ⟨rfl, rfl, rfl⟩;simp (maxSteps := 1000000) [hF, ht, eHI, hn, hk, h1, h2]
     (try refine nr ?_);(repeat first|refine nb_ ?_|refine nl_ ?_);refine endK.o [6] [] [] ?_;simp [hF, retK, covers, mpre, hc]
    ·have hc : itemB h k i = false := by simp [itemB, ht, hk, hl, h1, h2]
     refine (ething_ok h k).go [] (by simp (maxSteps := 1000000) [hF, ht, eHI, hn, hk, h1, h2]) ?_;rintro av X κ ⟨rfl, rfl, rfl⟩;simp (maxSteps := 1000000) [hF, ht, eHI, hn, hk, h1, h2]
     (try refine nr ?_);(repeat first|refine nb_ ?_|refine nl_ ?_);refine endK.o [6] [] [] ?_;simp [hF, retK, covers, mpre, hc]
   ·have hc : itemB h k i = false := by simp [itemB, ht, hk, hl, h1]
    refine (ething_ok h k).go [] (by simp (maxSteps := 1000000) [hF, ht, eHI, hn, hk, h1]) ?_;rintro av X κ ⟨rfl, rfl, rfl⟩;simp (maxSteps := 1000000) [hF, ht, eHI, hn, hk, h1]
    (try refine nr ?_);(repeat first|refine nb_ ?_|refine nl_ ?_);refine endK.o [6] [] [] ?_;simp [hF, retK, covers, mpre, hc]
theorem ehas_ok (ex : Bool) (l : List Int) (hl : l.length ≤ 100000000) (n : Int) : Meets Try.prog 102 [] (.cons (.imm 1 (dInts l) ex) (.cons (avInt n) .nil)) fun av X κ => av = avBool (hasN l n) ∧ X = [] ∧ κ = [] := by
 refine fb Try.func102 Try.ntmps102 [.tmp 4] fun w0 I0 F0 hF => ?_
 repeat first|refine n1 ?_|refine n3 ?_|((first|refine rg 0 [0, 1] [0, 1] [] ?_|refine rg 1 [0, 1] [0, 1, 5] [] ?_);simp (maxSteps := 1000000) [hF])
 refine VS.rounds (fun m st => ∃ (i : Nat), i + m = l.length ∧ (∀ j, (h' : j < l.length) → j < i → ¬ l[j] = n) ∧ st = ⟨[(0, .imm 1 (dInts l) ex), (1, avInt n), (5, avInt i)], [], [], []⟩) ⟨l.length, 0, by omega, by omega, by simp⟩ ?_
 rintro m st ⟨i, hi, hall, rfl⟩
 repeat first|refine n1 ?_|((first|refine rg 2 [0, 1, 5] [0, 1, 5, 9] [] ?_|refine nc ?_);simp (maxSteps := 1000000) [hF])
 refine ⟨fun hlt => ?_, fun hge => ?_⟩
 ·have hn := dInts_nth hlt
  have hw1 : IntKind.i64.wrap ((i : Int) + 1) = (i + 1 : Nat) := by rw [IntWalk.i64_in _ (by omega)]; rfl
  by_cases ht : l[i] = n
  ·have hc : hasN l n = true := by rw [hasN_iff]; exact ht ▸ List.getElem_mem hlt
   repeat first|refine n1 ?_|refine n2 ?_|refine n3 ?_|((first|refine rg 4 [0, 1, 5] [0, 1, 5, 17] [] ?_|refine rg 5 [] [4] [] ?_|refine nc ?_);simp (maxSteps := 1000000) [hF, hn, hlt, ht])
   (try refine nr ?_);(repeat first|refine nb_ ?_|refine nl_ ?_);refine endK.o [4] [] [] ?_;simp [hF, retK, covers, mpre, hc]
  ·repeat first|refine n1 ?_|refine n2 ?_|refine n3 ?_|refine n4 ?_|refine n5 ?_|refine n6 ?_|((first|refine rg 3 [0, 1, 5] [0, 1, 5] [] ?_|refine rg 4 [0, 1, 5] [0, 1, 5, 17] [] ?_|refine nc ?_);simp (maxSteps := 1000000) [hF, hn, hlt, ht, hw1])
   refine nextK.of [0, 1, 5] [] (m - 1) (by omega) (by simp [hF]) ?_
   refine ⟨i + 1, by omega, fun j h' hj => ?_, by simp⟩
   rcases Nat.lt_or_ge j i with h2 | h2
   ·exact hall j h' h2
   ·obtain rfl : j = i := by omega
    exact ht
 ·have hc : hasN l n = false := by
   cases hb : hasN l n with
   | false => rfl
   | true =>
    obtain ⟨j, hj, e⟩ := List.getElem_of_mem (hasN_iff.1 hb)
    exact absurd e (hall j hj (by omega))
  repeat first|refine n1 ?_|refine n7 ?_|(refine rg 6 [] [4] [] ?_;simp (maxSteps := 1000000) [hF])
  (try refine nr ?_);(repeat first|refine nb_ ?_|refine nl_ ?_);refine endK.o [4] [] [] ?_;simp [hF, retK, covers, mpre, hc]
theorem ehas_r (ex : Bool) (l : List Int) (hl : l.length ≤ 100000000) (n : Int) : Meets Try.prog 102 [.sl true () 1 (dInts l)] (.cons (.sub 0 [] 0 l.length ex) (.cons (avInt n) .nil)) fun av X κ => av = avBool (hasN l n) ∧ X = [.sl true () 1 (dInts l)] ∧ κ = [] := by
 have e : (AV.cons (.sub 0 [] 0 l.length ex) (.cons (avInt n) .nil)).chilled (.sl true () 1 (dInts l)) = .cons (.imm 1 (dInts l) ex) (.cons (avInt n) .nil) := by simp only [AV.chilled, dInts_mid_all, freeze_ints]
 refine Meets.mono (Meets.warm (Y := []) (by rw [e]; exact ehas_ok ex l hl n) ?_) ?_
 ·rintro av X κ ⟨rfl, rfl, rfl⟩
  exact ⟨rfl, by simp, rfl⟩
 ·rintro av X κ ⟨av0, X0, ⟨rfl, rfl, _⟩, rfl, rfl, rfl⟩
  exact ⟨rfl, rfl, rfl⟩
def okF (L : List Tg) (all : Bool) (z : Int) : Bool := all || notSh L z
def reachE (L : List Tg) (all : Bool) (x : Int) : List Int := rV (okF L all) L L.length [] x
theorem rV_len (ok : Int → Bool) {L : List Tg} (hL : ItemsOk L) : ∀ (n : Nat) (out : List Int) (y : Int), 0 ≤ y ∧ y < L.length → (rV ok L n out y).length + left L (rV ok L n out y) ≤ out.length + left L out
 | 0, _, _, _ => Nat.le_refl _
 | n + 1, out, y, hy => by
  have hf : ∀ (l : List Int), (∀ z ∈ l, 0 ≤ z ∧ z < L.length) → ∀ o : List Int, (l.foldl (rV ok L n) o).length + left L (l.foldl (rV ok L n) o) ≤ o.length + left L o := by
   intro l
   induction l with
   | nil => exact fun _ _ => Nat.le_refl _
   | cons a l ih => exact fun hl o => Nat.le_trans (ih (fun z h => hl z (by simp [h])) _) (rV_len ok hL n o a (hl a (by simp)))
  rw [rV]
  split
  ·exact Nat.le_refl _
  ·rename_i hc
   have hy' : y ∉ out := fun h => hc (by simp [h])
   have h1 := hf _ (itemsOf_ok hL y) (out ++ [y])
   have h2 := left_lt L hy hy'
   simp only [List.length_append, List.length_singleton] at h1
   omega
theorem rV_in {ok : Int → Bool} {L : List Tg} (n : Nat) {out : List Int} {y : Int} (h : y ∈ out) : rV ok L n out y = out := by
 cases n with
 | zero => rfl
 | succ n => simp [rV, h]
theorem ereach_in (h : Hs) (hok : Hok h) (all : Bool) : ∀ (n : Nat) (out : List Int) (x : Nat), x < h.things.length → left h.things out ≤ n → out.length + left h.things out ≤ 400 →
  Meets Try.prog 94 [.sl true () 1 (dInts out)] (.cons (avE h) (.cons (avInt x) (.cons (.sub 0 [] 0 out.length false) (.cons (avBool all) .nil))))
  fun av X κ => av = .sub 1 [] 0 (rV (okF h.things all) h.things n out x).length false ∧ X = [.junk (), .sl true () 1 (dInts (rV (okF h.things all) h.things n out x))] ∧ κ = [(0, [])] := by
 intro n
 induction n with
 | zero =>
  intro out x hx hn hlen
  have htn := eTgs_nth (o := false) hx
  have hin : (x : Int) ∈ out := by
   refine Classical.byContradiction fun h' => ?_
   have := left_lt h.things (y := (x : Int)) ⟨by omega, by omega⟩ h'; omega
  have hh : hasN out x = true := hasN_iff.2 hin
  have hc : rV (okF h.things all) h.things 0 out x = out := rV_in 0 hin
  refine fb Try.func94 Try.ntmps94 [.tmp 8] fun w0 I0 F0 hF => ?_
  refine ghostL 0 [] ?_;simp (maxSteps := 1000000) [hF, St.lift, AV.lift, liftPl, stripP, nodeAV, isNode]
  repeat first|refine n1 ?_|((first|refine rg 0 [0, 1, 2, 3] [0, 1, 2, 3] [] ?_|refine rg 1 [0, 1, 2, 3] [0, 1, 2, 3, 9] [] ?_|refine rg 2 [0, 1, 2, 3, 9] [0, 1, 2, 3, 9, 29] [(3, 21), (6, 24)] ?_);simp (maxSteps := 1000000) [hF, eHI, htn, hx])
  refine (ehas_r false out (by omega) x).go [(1, [])] (by simp (maxSteps := 1000000) [hF, hh]) ?_;rintro av X κ ⟨rfl, rfl, rfl⟩;simp (maxSteps := 1000000) [hF, hh]
  repeat first|refine n1 ?_|((first|refine rg 3 [2] [8] [] ?_|refine nc ?_);simp (maxSteps := 1000000) [hF])
  (try refine nr ?_);(repeat first|refine nb_ ?_|refine nl_ ?_);refine endK.o [8] [0, 1] [(0, [])] ?_;simp [hF, retK, covers, mpre, hc]
 | succ n ihn =>
  intro out x hx hn hlen
  have htn := eTgs_nth (o := false) hx
  have hw : IntKind.i64.wrap (-1) = -1 := by decide
  refine fb Try.func94 Try.ntmps94 [.tmp 8] fun w0 I0 F0 hF => ?_
  refine ghostL 0 [] ?_;simp (maxSteps := 1000000) [hF, St.lift, AV.lift, liftPl, stripP, nodeAV, isNode]
  repeat first|refine n1 ?_|((first|refine rg 0 [0, 1, 2, 3] [0, 1, 2, 3] [] ?_|refine rg 1 [0, 1, 2, 3] [0, 1, 2, 3, 9] [] ?_|refine rg 2 [0, 1, 2, 3, 9] [0, 1, 2, 3, 9, 29] [(3, 21), (6, 24)] ?_);simp (maxSteps := 1000000) [hF, eHI, htn, hx])
  cases hh : hasN out x with
  | true =>
   have hc : rV (okF h.things all) h.things (n + 1) out x = out := rV_in _ (hasN_iff.1 hh)
   refine (ehas_r false out (by omega) x).go [(1, [])] (by simp (maxSteps := 1000000) [hF, hh]) ?_;rintro av X κ ⟨rfl, rfl, rfl⟩;simp (maxSteps := 1000000) [hF, hh]
   repeat first|refine n1 ?_|((first|refine rg 3 [2] [8] [] ?_|refine nc ?_);simp (maxSteps := 1000000) [hF])
   (try refine nr ?_);(repeat first|refine nb_ ?_|refine nl_ ?_);refine endK.o [8] [0, 1] [(0, [])] ?_;simp [hF, retK, covers, mpre, hc]
  | false =>
   have hnin : ¬ (x : Int) ∈ out := fun h' => by rw [hasN_iff.2 h'] at hh; cases hh
   cases ho : okF h.things all x with
   | false =>
    have hc : rV (okF h.things all) h.things (n + 1) out x = out := by simp [rV, ho]
    have ha : all = false := by cases all with | false => rfl | true => simp [okF] at ho
    subst ha
    have how : h.things[x].owner = -1 := by simpa [okF, notSh, hx] using ho
    refine (ehas_r false out (by omega) x).go [(1, [])] (by simp (maxSteps := 1000000) [hF, hh, how, hw]) ?_;rintro av X κ ⟨rfl, rfl, rfl⟩;simp (maxSteps := 1000000) [hF, hh, how, hw]
    repeat first|refine n1 ?_|((first|refine rg 3 [2] [8] [] ?_|refine nc ?_);simp (maxSteps := 1000000) [hF])
    (try refine nr ?_);(repeat first|refine nb_ ?_|refine nl_ ?_);refine endK.o [8] [0, 1] [(0, [])] ?_;simp [hF, retK, covers, mpre, hc]
   | true =>
    have hc : rV (okF h.things all) h.things (n + 1) out x = h.things[x].items.foldl (rV (okF h.things all) h.things n) (out ++ [(x : Int)]) := by simp [rV, ho, hnin, itemsOf, hx]
    have hle := left_lt h.things (y := (x : Int)) ⟨by omega, by omega⟩ hnin
    have hil := hok.few _ (List.getElem_mem hx)
    have hvi : ∀ z ∈ h.things[x].items, 0 ≤ z ∧ z < h.things.length := hok.items _ (List.getElem_mem hx)
    have hp := dInts_app1 out x
    have hm : (dInts (out ++ [(x : Int)])).mid 0 (out.length + 1) = dInts (out ++ [(x : Int)]) := sq_mid_all _ _ (by simp)
    have hm0 : (dInts out).mid 0 out.length = dInts out := by simp
    have c1 : (out.length + 1) * 8 ≤ 140737488355328 := by omega
    have c2 : out.length ≤ 9223372036854775806 := by omega
    have hif : all = true ∨ (all = false ∧ ¬ h.things[x].owner = -1) := by
     cases all with
     | true => exact .inl rfl
     | false => exact .inr ⟨rfl, by simpa [okF, notSh, hx] using ho⟩
    generalize hIS : h.things[x].items = IS at *
    have hrest : ∀ K : Prop, K → K := fun _ h => h
    rcases hif with rfl | ⟨rfl, how⟩
    ·refine (ehas_r false out (by omega) x).go [(1, [])] (by simp (maxSteps := 1000000) [hF, hh]) ?_;rintro av X κ ⟨rfl, rfl, rfl⟩;simp (maxSteps := 1000000) [hF, hh]
     repeat first|refine n1 ?_|refine n2 ?_|refine n3 ?_|((first|refine rg 4 [0, 1, 2, 3, 9] [0, 2, 3, 9] [] ?_|refine rg 5 [0, 2, 3, 9] [0, 2, 3, 9, 10] [] ?_|refine nc ?_);simp (maxSteps := 1000000) [hF, hp, hm, hm0, c1, c2])
     refine VS.pick [0, 2, 3, 9, 10] [0, 1, 2] (by simp [hF]) ?_;simp [hF]
     refine VS.rounds (fun m st => ∃ (i : Nat) (cur : List Int), i + m = IS.length ∧ cur = (IS.take i).foldl (rV (okF h.things true) h.things n) (out ++ [(x : Int)]) ∧ left h.things cur ≤ n ∧ cur.length + left h.things cur ≤ 400 ∧ st = ⟨[(0, avE h), (2, .sub 1 [] 0 cur.length false), (3, avBool true), (9, .ptr 2 [.d]), (10, avInt i)],
      [.junk (), .sl true () 1 (dInts cur), .box true () (.agg (.cons (.val (.bool h.things[x].list)) (.cons (.val (.bool h.things[x].frozen)) (.cons (.val (.int .i64 h.things[x].word)) (.cons (.val (.int .i64 h.things[x].owner)) (.cons (.sl false () 1 (dInts IS)) .nil))))))], [(0, [])], []⟩)
      ⟨IS.length, 0, out ++ [(x : Int)], by omega, rfl, by omega, by simp; omega, by simp⟩ ?_
     rintro m st ⟨i, cur, hi, hcur, hcl, hcb, rfl⟩
     repeat first|refine n1 ?_|((first|refine rg 6 [0, 2, 3, 9, 10] [0, 2, 3, 9, 10, 39] [] ?_|refine nc ?_);simp (maxSteps := 1000000) [hF])
     refine ⟨fun hlt => ?_, fun hge => ?_⟩
     ·have hv := hvi _ (List.getElem_mem hlt)
      obtain ⟨y, hy⟩ : ∃ y : Nat, IS[i] = y := ⟨IS[i].toNat, by omega⟩
      have hyl : y < h.things.length := by omega
      have hin : (dInts IS).nth i = .val (.int .i64 y) := by rw [dInts_nth hlt, hy]
      have hw1 : IntKind.i64.wrap ((i : Int) + 1) = (i + 1 : Nat) := by rw [IntWalk.i64_in _ (by omega)]; rfl
      have hnx : (IS.take (i + 1)).foldl (rV (okF h.things true) h.things n) (out ++ [(x : Int)]) = rV (okF h.things true) h.things n cur y := by
       rw [List.take_add_one, List.getElem?_eq_getElem hlt, List.foldl_append, ← hcur, hy]; rfl
      have hr1 := left_le h.things (fun z hz => rV_mem (okF h.things true) h.things n cur y z hz)
      have hr2 := rV_len (okF h.things true) hok.items n cur (y : Int) ⟨by omega, by omega⟩
      repeat first|refine n1 ?_|refine n2 ?_|refine n3 ?_|(refine rg 8 [0, 2, 3, 9, 10] [0, 2, 3, 9, 10] [] ?_;simp (maxSteps := 1000000) [hF, hin, hlt])
      refine (ihn cur y hyl hcl hcb).go [(1, [])] (by simp (maxSteps := 1000000) [hF]) ?_;rintro av X κ ⟨rfl, rfl, rfl⟩;simp (maxSteps := 1000000) [hF]
      repeat first|refine n4 ?_|refine n5 ?_|refine n6 ?_|(refine rg 7 [0, 2, 3, 9, 10] [0, 2, 3, 9, 10] [] ?_;simp (maxSteps := 1000000) [hF, hw1])
      refine nextK.of [0, 2, 3, 9, 10] [0, 3, 2] (m - 1) (by omega) (by simp [hF]) ?_
      refine ⟨i + 1, _, by omega, hnx.symm, by omega, by omega, ?_⟩
      simp
     ·have hfin : cur = IS.foldl (rV (okF h.things true) h.things n) (out ++ [(x : Int)]) := by rw [hcur, List.take_of_length_le (by omega)]
      rw [← hfin] at hc
      repeat first|refine n1 ?_|refine n7 ?_|(refine rg 9 [2] [8] [] ?_;simp (maxSteps := 1000000) [hF])
      (try refine nr ?_);(repeat first|refine nb_ ?_|refine nl_ ?_);refine endK.o [8] [0, 1] [(0, [])] ?_;simp [hF, retK, covers, mpre, hc]
    ·refine (ehas_r false out (by omega) x).go [(1, [])] (by simp (maxSteps := 1000000) [hF, hh, how, hw]) ?_;rintro av X κ ⟨rfl, rfl, rfl⟩;simp (maxSteps := 1000000) [hF, hh, how, hw]
     repeat first|refine n1 ?_|refine n2 ?_|refine n3 ?_|((first|refine rg 4 [0, 1, 2, 3, 9] [0, 2, 3, 9] [] ?_|refine rg 5 [0, 2, 3, 9] [0, 2, 3, 9, 10] [] ?_|refine nc ?_);simp (maxSteps := 1000000) [hF, hp, hm, hm0, c1, c2])
     refine VS.pick [0, 2, 3, 9, 10] [0, 1, 2] (by simp [hF]) ?_;simp [hF]
     refine VS.rounds (fun m st => ∃ (i : Nat) (cur : List Int), i + m = IS.length ∧ cur = (IS.take i).foldl (rV (okF h.things false) h.things n) (out ++ [(x : Int)]) ∧ left h.things cur ≤ n ∧ cur.length + left h.things cur ≤ 400 ∧ st = ⟨[(0, avE h), (2, .sub 1 [] 0 cur.length false), (3, avBool false), (9, .ptr 2 [.d]), (10, avInt i)],
      [.junk (), .sl true () 1 (dInts cur), .box true () (.agg (.cons (.val (.bool h.things[x].list)) (.cons (.val (.bool h.things[x].frozen)) (.cons (.val (.int .i64 h.things[x].word)) (.cons (.val (.int .i64 h.things[x].owner)) (.cons (.sl false () 1 (dInts IS)) .nil))))))], [(0, [])], []⟩)
      ⟨IS.length, 0, out ++ [(x : Int)], by omega, rfl, by omega, by simp; omega, by simp⟩ ?_
     rintro m st ⟨i, cur, hi, hcur, hcl, hcb, rfl⟩
     repeat first|refine n1 ?_|((first|refine rg 6 [0, 2, 3, 9, 10] [0, 2, 3, 9, 10, 39] [] ?_|refine nc ?_);simp (maxSteps := 1000000) [hF])
     refine ⟨fun hlt => ?_, fun hge => ?_⟩
     ·have hv := hvi _ (List.getElem_mem hlt)
      obtain ⟨y, hy⟩ : ∃ y : Nat, IS[i] = y := ⟨IS[i].toNat, by omega⟩
      have hyl : y < h.things.length := by omega
      have hin : (dInts IS).nth i = .val (.int .i64 y) := by rw [dInts_nth hlt, hy]
      have hw1 : IntKind.i64.wrap ((i : Int) + 1) = (i + 1 : Nat) := by rw [IntWalk.i64_in _ (by omega)]; rfl
      have hnx : (IS.take (i + 1)).foldl (rV (okF h.things false) h.things n) (out ++ [(x : Int)]) = rV (okF h.things false) h.things n cur y := by
       rw [List.take_add_one, List.getElem?_eq_getElem hlt, List.foldl_append, ← hcur, hy]; rfl
      have hr1 := left_le h.things (fun z hz => rV_mem (okF h.things false) h.things n cur y z hz)
      have hr2 := rV_len (okF h.things false) hok.items n cur (y : Int) ⟨by omega, by omega⟩
      repeat first|refine n1 ?_|refine n2 ?_|refine n3 ?_|(refine rg 8 [0, 2, 3, 9, 10] [0, 2, 3, 9, 10] [] ?_;simp (maxSteps := 1000000) [hF, hin, hlt])
      refine (ihn cur y hyl hcl hcb).go [(1, [])] (by simp (maxSteps := 1000000) [hF]) ?_;rintro av X κ ⟨rfl, rfl, rfl⟩;simp (maxSteps := 1000000) [hF]
      repeat first|refine n4 ?_|refine n5 ?_|refine n6 ?_|(refine rg 7 [0, 2, 3, 9, 10] [0, 2, 3, 9, 10] [] ?_;simp (maxSteps := 1000000) [hF, hw1])
      refine nextK.of [0, 2, 3, 9, 10] [0, 3, 2] (m - 1) (by omega) (by simp [hF]) ?_
      refine ⟨i + 1, _, by omega, hnx.symm, by omega, by omega, ?_⟩
      simp
     ·have hfin : cur = IS.foldl (rV (okF h.things false) h.things n) (out ++ [(x : Int)]) := by rw [hcur, List.take_of_length_le (by omega)]
      rw [← hfin] at hc
      repeat first|refine n1 ?_|refine n7 ?_|(refine rg 9 [2] [8] [] ?_;simp (maxSteps := 1000000) [hF])
      (try refine nr ?_);(repeat first|refine nb_ ?_|refine nl_ ?_);refine endK.o [8] [0, 1] [(0, [])] ?_;simp [hF, retK, covers, mpre, hc]
theorem ereach_n (h : Hs) (hok : Hok h) (all : Bool) (x : Nat) (hx : x < h.things.length) :
  Meets Try.prog 94 [] (.cons (avE h) (.cons (avInt x) (.cons (.nils 1) (.cons (avBool all) .nil))))
  fun av X κ => av = .sub 0 [] 0 (reachE h.things all x).length false ∧ X = [.sl true () 1 (dInts (reachE h.things all x))] ∧ κ = [] := by
 obtain ⟨n, hn⟩ : ∃ n, h.things.length = n + 1 := ⟨h.things.length - 1, by omega⟩
 have htn := eTgs_nth (o := false) hx
 have hw : IntKind.i64.wrap (-1) = -1 := by decide
 have hbd := hok.things
 have hR : reachE h.things all x = rV (okF h.things all) h.things (n + 1) [] x := by rw [reachE, hn]
 have hh : hasN [] (x : Int) = false := rfl
 have he := ehas_r false [] (by simp) x
 rw [dInts_nil] at he
 refine fb Try.func94 Try.ntmps94 [.tmp 8] fun w0 I0 F0 hF => ?_
 refine VS.hold0 2 1 (by simp) ?_
 generalize hK : VS _ _ _ = KK; simp; (try subst hK)
 repeat first|refine n1 ?_|((first|refine rg 0 [0, 1, 2, 3] [0, 1, 2, 3] [] ?_|refine rg 1 [0, 1, 2, 3] [0, 1, 2, 3, 9] [] ?_|refine rg 2 [0, 1, 2, 3, 9] [0, 1, 2, 3, 9, 29] [(3, 21), (6, 24)] ?_);simp (maxSteps := 1000000) [hF, eHI, htn, hx])
 cases ho : okF h.things all x with
 | false =>
  have hc : reachE h.things all x = [] := by rw [hR]; simp [rV, ho]
  have ha : all = false := by cases all with | false => rfl | true => simp [okF] at ho
  subst ha
  have how : h.things[x].owner = -1 := by simpa [okF, notSh, hx] using ho
  refine (he).go [(0, [])] (by simp (maxSteps := 1000000) [hF, hh, how, hw]) ?_;rintro av X κ ⟨rfl, rfl, rfl⟩;simp (maxSteps := 1000000) [hF, hh, how, hw]
  repeat first|refine n1 ?_|((first|refine rg 3 [2] [8] [] ?_|refine nc ?_);simp (maxSteps := 1000000) [hF])
  (try refine nr ?_);(repeat first|refine nb_ ?_|refine nl_ ?_);refine endK.o [8] [0] [] ?_;simp [hF, retK, covers, mpre, hc]
 | true =>
  have hc : reachE h.things all x = h.things[x].items.foldl (rV (okF h.things all) h.things n) [(x : Int)] := by rw [hR]; simp [rV, ho, itemsOf, hx]
  have hle := left_lt h.things (o := []) (y := (x : Int)) ⟨by omega, by omega⟩ (by simp)
  rw [left_nil] at hle
  simp only [List.nil_append] at hle
  have hil := hok.few _ (List.getElem_mem hx)
  have hvi : ∀ z ∈ h.things[x].items, 0 ≤ z ∧ z < h.things.length := hok.items _ (List.getElem_mem hx)
  have hif : all = true ∨ (all = false ∧ ¬ h.things[x].owner = -1) := by
   cases all with
   | true => exact .inl rfl
   | false => exact .inr ⟨rfl, by simpa [okF, notSh, hx] using ho⟩
  generalize hIS : h.things[x].items = IS at *
  rcases hif with rfl | ⟨rfl, how⟩
  ·refine (he).go [(0, [])] (by simp (maxSteps := 1000000) [hF, hh]) ?_;rintro av X κ ⟨rfl, rfl, rfl⟩;simp (maxSteps := 1000000) [hF, hh]
   repeat first|refine n1 ?_|refine n2 ?_|refine n3 ?_|((first|refine rg 4 [0, 1, 2, 3, 9] [0, 2, 3, 9] [] ?_|refine rg 5 [0, 2, 3, 9] [0, 2, 3, 9, 10] [] ?_|refine nc ?_);simp (maxSteps := 1000000) [hF, T.mid, T.drop, T.take, T.app])
   refine VS.pick [0, 2, 3, 9, 10] [0, 1] (by simp [hF]) ?_;simp [hF]
   refine VS.rounds (fun m st => ∃ (i : Nat) (cur : List Int), i + m = IS.length ∧ cur = (IS.take i).foldl (rV (okF h.things true) h.things n) [(x : Int)] ∧ left h.things cur ≤ n ∧ cur.length + left h.things cur ≤ 400 ∧ st = ⟨[(0, avE h), (2, .sub 0 [] 0 cur.length false), (3, avBool true), (9, .ptr 1 [.d]), (10, avInt i)],
    [.sl true () 1 (dInts cur), .box true () (.agg (.cons (.val (.bool h.things[x].list)) (.cons (.val (.bool h.things[x].frozen)) (.cons (.val (.int .i64 h.things[x].word)) (.cons (.val (.int .i64 h.things[x].owner)) (.cons (.sl false () 1 (dInts IS)) .nil))))))], [], []⟩)
    ⟨IS.length, 0, [(x : Int)], by omega, rfl, by omega, by simp; omega, by simp [dInts, sq, dInt]⟩ ?_
   rintro m st ⟨i, cur, hi, hcur, hcl, hcb, rfl⟩
   repeat first|refine n1 ?_|((first|refine rg 6 [0, 2, 3, 9, 10] [0, 2, 3, 9, 10, 39] [] ?_|refine nc ?_);simp (maxSteps := 1000000) [hF])
   refine ⟨fun hlt => ?_, fun hge => ?_⟩
   ·have hv := hvi _ (List.getElem_mem hlt)
    obtain ⟨y, hy⟩ : ∃ y : Nat, IS[i] = y := ⟨IS[i].toNat, by omega⟩
    have hyl : y < h.things.length := by omega
    have hin : (dInts IS).nth i = .val (.int .i64 y) := by rw [dInts_nth hlt, hy]
    have hw1 : IntKind.i64.wrap ((i : Int) + 1) = (i + 1 : Nat) := by rw [IntWalk.i64_in _ (by omega)]; rfl
    have hnx : (IS.take (i + 1)).foldl (rV (okF h.things true) h.things n) [(x : Int)] = rV (okF h.things true) h.things n cur y := by
     rw [List.take_add_one, List.getElem?_eq_getElem hlt, List.foldl_append, ← hcur, hy]; rfl
    have hr1 := left_le h.things (fun z hz => rV_mem (okF h.things true) h.things n cur y z hz)
    have hr2 := rV_len (okF h.things true) hok.items n cur (y : Int) ⟨by omega, by omega⟩
    repeat first|refine n1 ?_|refine n2 ?_|refine n3 ?_|(refine rg 8 [0, 2, 3, 9, 10] [0, 2, 3, 9, 10] [] ?_;simp (maxSteps := 1000000) [hF, hin, hlt])
    refine (ereach_in h hok true n cur y hyl hcl hcb).go [(0, [])] (by simp (maxSteps := 1000000) [hF]) ?_;rintro av X κ ⟨rfl, rfl, rfl⟩;simp (maxSteps := 1000000) [hF]
    repeat first|refine n4 ?_|refine n5 ?_|refine n6 ?_|(refine rg 7 [0, 2, 3, 9, 10] [0, 2, 3, 9, 10] [] ?_;simp (maxSteps := 1000000) [hF, hw1])
    refine nextK.of [0, 2, 3, 9, 10] [2, 1] (m - 1) (by omega) (by simp [hF]) ?_
    refine ⟨i + 1, _, by omega, hnx.symm, by omega, by omega, ?_⟩
    simp
   ·have hfin : cur = IS.foldl (rV (okF h.things true) h.things n) [(x : Int)] := by rw [hcur, List.take_of_length_le (by omega)]
    rw [← hfin] at hc
    repeat first|refine n1 ?_|refine n7 ?_|(refine rg 9 [2] [8] [] ?_;simp (maxSteps := 1000000) [hF])
    (try refine nr ?_);(repeat first|refine nb_ ?_|refine nl_ ?_);refine endK.o [8] [0] [] ?_;simp [hF, retK, covers, mpre, hc]
  ·refine (he).go [(0, [])] (by simp (maxSteps := 1000000) [hF, hh, how, hw]) ?_;rintro av X κ ⟨rfl, rfl, rfl⟩;simp (maxSteps := 1000000) [hF, hh, how, hw]
   repeat first|refine n1 ?_|refine n2 ?_|refine n3 ?_|((first|refine rg 4 [0, 1, 2, 3, 9] [0, 2, 3, 9] [] ?_|refine rg 5 [0, 2, 3, 9] [0, 2, 3, 9, 10] [] ?_|refine nc ?_);simp (maxSteps := 1000000) [hF, T.mid, T.drop, T.take, T.app])
   refine VS.pick [0, 2, 3, 9, 10] [0, 1] (by simp [hF]) ?_;simp [hF]
   refine VS.rounds (fun m st => ∃ (i : Nat) (cur : List Int), i + m = IS.length ∧ cur = (IS.take i).foldl (rV (okF h.things false) h.things n) [(x : Int)] ∧ left h.things cur ≤ n ∧ cur.length + left h.things cur ≤ 400 ∧ st = ⟨[(0, avE h), (2, .sub 0 [] 0 cur.length false), (3, avBool false), (9, .ptr 1 [.d]), (10, avInt i)],
    [.sl true () 1 (dInts cur), .box true () (.agg (.cons (.val (.bool h.things[x].list)) (.cons (.val (.bool h.things[x].frozen)) (.cons (.val (.int .i64 h.things[x].word)) (.cons (.val (.int .i64 h.things[x].owner)) (.cons (.sl false () 1 (dInts IS)) .nil))))))], [], []⟩)
    ⟨IS.length, 0, [(x : Int)], by omega, rfl, by omega, by simp; omega, by simp [dInts, sq, dInt]⟩ ?_
   rintro m st ⟨i, cur, hi, hcur, hcl, hcb, rfl⟩
   repeat first|refine n1 ?_|((first|refine rg 6 [0, 2, 3, 9, 10] [0, 2, 3, 9, 10, 39] [] ?_|refine nc ?_);simp (maxSteps := 1000000) [hF])
   refine ⟨fun hlt => ?_, fun hge => ?_⟩
   ·have hv := hvi _ (List.getElem_mem hlt)
    obtain ⟨y, hy⟩ : ∃ y : Nat, IS[i] = y := ⟨IS[i].toNat, by omega⟩
    have hyl : y < h.things.length := by omega
    have hin : (dInts IS).nth i = .val (.int .i64 y) := by rw [dInts_nth hlt, hy]
    have hw1 : IntKind.i64.wrap ((i : Int) + 1) = (i + 1 : Nat) := by rw [IntWalk.i64_in _ (by omega)]; rfl
    have hnx : (IS.take (i + 1)).foldl (rV (okF h.things false) h.things n) [(x : Int)] = rV (okF h.things false) h.things n cur y := by
     rw [List.take_add_one, List.getElem?_eq_getElem hlt, List.foldl_append, ← hcur, hy]; rfl
    have hr1 := left_le h.things (fun z hz => rV_mem (okF h.things false) h.things n cur y z hz)
    have hr2 := rV_len (okF h.things false) hok.items n cur (y : Int) ⟨by omega, by omega⟩
    repeat first|refine n1 ?_|refine n2 ?_|refine n3 ?_|(refine rg 8 [0, 2, 3, 9, 10] [0, 2, 3, 9, 10] [] ?_;simp (maxSteps := 1000000) [hF, hin, hlt])
    refine (ereach_in h hok false n cur y hyl hcl hcb).go [(0, [])] (by simp (maxSteps := 1000000) [hF]) ?_;rintro av X κ ⟨rfl, rfl, rfl⟩;simp (maxSteps := 1000000) [hF]
    repeat first|refine n4 ?_|refine n5 ?_|refine n6 ?_|(refine rg 7 [0, 2, 3, 9, 10] [0, 2, 3, 9, 10] [] ?_;simp (maxSteps := 1000000) [hF, hw1])
    refine nextK.of [0, 2, 3, 9, 10] [2, 1] (m - 1) (by omega) (by simp [hF]) ?_
    refine ⟨i + 1, _, by omega, hnx.symm, by omega, by omega, ?_⟩
    simp
   ·have hfin : cur = IS.foldl (rV (okF h.things false) h.things n) [(x : Int)] := by rw [hcur, List.take_of_length_le (by omega)]
    rw [← hfin] at hc
    repeat first|refine n1 ?_|refine n7 ?_|(refine rg 9 [2] [8] [] ?_;simp (maxSteps := 1000000) [hF])
    (try refine nr ?_);(repeat first|refine nb_ ?_|refine nl_ ?_);refine endK.o [8] [0] [] ?_;simp [hF, retK, covers, mpre, hc]
theorem warmL {f : FuncId} {s : D} {t t0 a : AV} (hm : Meets Try.prog f [] t0 fun av X κ => av = a ∧ X = [] ∧ κ = []) (ht : t.chilled (.sl true () 1 s) = t0) (ha : a.plain = true) (he : a.emb [] 1 = a) :
  Meets Try.prog f [.sl true () 1 s] t fun av X κ => av = a ∧ X = [.sl true () 1 s] ∧ κ = [] := by
 refine Meets.mono (Meets.warm (Y := []) (by rw [ht]; exact hm) ?_) ?_
 ·rintro av X κ ⟨rfl, rfl, rfl⟩
  exact ⟨ha, by simp, rfl⟩
 ·rintro av X κ ⟨av0, X0, ⟨rfl, rfl, _⟩, rfl, rfl, rfl⟩
  exact ⟨he, rfl, rfl⟩
theorem estate_s1 (h : Hs) (who : Nat) (hk : who < h.rooms.length) (ex : Bool) (x : Int) (hv : isT h x = true) : Meets Try.prog 87 [.sl true () 1 (.cons (.val (.int .i64 x)) .nil)] (.cons (avE h) (.cons (avInt who) (.cons (.sub 0 [] 0 1 ex) .nil)))
  fun av X κ => av = avInt (stateOf h who [x]) ∧ X = [.sl true () 1 (.cons (.val (.int .i64 x)) .nil)] ∧ κ = [] :=
 warmL (estate_ok h who hk ex [x] (by simp) (by simpa using hv)) rfl rfl rfl
theorem estate_s2 (h : Hs) (who : Nat) (hk : who < h.rooms.length) (ex : Bool) (x y : Int) (hv : isT h x = true) (hv2 : isT h y = true) : Meets Try.prog 87 [.sl true () 1 (.cons (.val (.int .i64 x)) (.cons (.val (.int .i64 y)) .nil))] (.cons (avE h) (.cons (avInt who) (.cons (.sub 0 [] 0 2 ex) .nil)))
  fun av X κ => av = avInt (stateOf h who [x, y]) ∧ X = [.sl true () 1 (.cons (.val (.int .i64 x)) (.cons (.val (.int .i64 y)) .nil))] ∧ κ = [] :=
 warmL (estate_ok h who hk ex [x, y] (by simp) (by simp [hv, hv2])) rfl rfl rfl
theorem estate_n (h : Hs) (who : Nat) (hk : who < h.rooms.length) : Meets Try.prog 87 [] (.cons (avE h) (.cons (avInt who) (.cons (.nils 1) .nil)))
  fun av X κ => av = avInt (stateOf h who []) ∧ X = [] ∧ κ = [] := Meets.nilled (estate_ok h who hk true [] (by simp) (by simp))
theorem ask_state {h : Hs} {who : Int} {l : List Int} (h1 : isR h who = true) (h2 : l.all (isT h) = true) : askOf h who l = stateOf h who l := by simp [askOf, stateOf, h1, h2]
theorem item_index {h : Hs} {x i : Int} (h1 : isT h x = true) (h2 : itemB h x i = false) : indexOf h x i = 1 := by
 obtain ⟨k, rfl, hk⟩ := isT_nat h1
 simp only [indexOf, h1, true_and]
 rw [if_pos]
 simp only [itemB, h1, Bool.true_and] at h2
 cases hl : (gd h.things (k : Int)).list with
 | false => exact .inl rfl
 | true =>
  right
  by_cases hi : i < 0
  ·exact .inl hi
  ·right
   rw [hl] at h2
   simp only [Bool.true_and, Bool.and_eq_false_iff, decide_eq_false_iff_not] at h2
   omega
theorem item_at {h : Hs} {x i : Int} (h2 : itemB h x i = true) : ∃ k j : Nat, x = k ∧ i = j ∧ ∃ hk : k < h.things.length, j < h.things[k].items.length ∧ h.things[k].list = true ∧ indexOf h x i = 0 := by
 simp only [itemB, Bool.and_eq_true, decide_eq_true_eq] at h2
 obtain ⟨⟨⟨h1, h3⟩, h4⟩, h5⟩ := h2
 obtain ⟨k, rfl, hk⟩ := isT_nat h1
 rw [gd_at hk] at h3 h5
 refine ⟨k, i.toNat, rfl, by omega, hk, by omega, h3, ?_⟩
 rw [indexOf, if_neg]
 rw [gd_at hk, h3]
 rintro ⟨_, h | h | h⟩
 ·cases h
 ·omega
 ·omega
theorem eown_ok (ex : Bool) (l : List Int) (hl : l.length ≤ 100000000) : Meets Try.prog 73 [] (.cons (.imm 1 (dInts l) ex) .nil)
  fun av X κ => av = .sub 0 [] 0 l.length false ∧ X = [.sl true () 1 (dInts l)] ∧ κ = [] := by
 refine fb Try.func73 Try.ntmps73 [.tmp 2] fun w0 I0 F0 hF => ?_
 repeat first|refine n1 ?_|refine ⟨⟨by omega, by omega⟩, ?_⟩|((first|refine rg 0 [0] [0] [] ?_|refine rg 1 [0] [2] [] ?_);simp (maxSteps := 1000000) [hF])
 (try refine nr ?_);(repeat first|refine nb_ ?_|refine nl_ ?_);refine endK.o [2] [0] [] ?_;simp [hF, retK, covers, mpre]
theorem efrozen_ok (h : Hs) (x : Nat) (hx : x < h.things.length) : Meets Try.prog 92 [] (.cons (avE h) (.cons (avInt x) .nil)) fun av X κ => av = avBool (h.things[x].frozen || !notSh h.things x) ∧ X = [] ∧ κ = [] := by
 have hn := eTgs_nth (o := false) hx
 have hw : IntKind.i64.wrap (-1) = -1 := by decide
 cases hf : h.things[x].frozen with
 | true =>
  rw [hf] at hn
  refine fb Try.func92 Try.ntmps92 [.tmp 4] fun w0 I0 F0 hF => ?_
  repeat first|refine n1 ?_|((first|refine rg 0 [0, 1] [0, 1] [] ?_|refine rg 1 [0, 1] [4] [(8, 13)] ?_);simp (maxSteps := 1000000) [hF, eHI, hn, hx])
  (try refine nr ?_);(repeat first|refine nb_ ?_|refine nl_ ?_);refine endK.o [4] [] [] ?_;simp [hF, retK, covers, mpre]
 | false =>
  rw [hf] at hn
  by_cases ho : h.things[x].owner = -1
  ·have hc : notSh h.things x = false := by simp [notSh, hx, ho]
   refine fb Try.func92 Try.ntmps92 [.tmp 4] fun w0 I0 F0 hF => ?_
   repeat first|refine n1 ?_|((first|refine rg 0 [0, 1] [0, 1] [] ?_|refine rg 1 [0, 1] [4] [(8, 13)] ?_);simp (maxSteps := 1000000) [hF, eHI, hn, hx, ho])
   (try refine nr ?_);(repeat first|refine nb_ ?_|refine nl_ ?_);refine endK.o [4] [] [] ?_;simp [hF, retK, covers, mpre, hc]
  ·have hc : notSh h.things x = true := by simp [notSh, hx, ho]
   refine fb Try.func92 Try.ntmps92 [.tmp 4] fun w0 I0 F0 hF => ?_
   repeat first|refine n1 ?_|((first|refine rg 0 [0, 1] [0, 1] [] ?_|refine rg 1 [0, 1] [4] [(8, 13)] ?_);simp (maxSteps := 1000000) [hF, eHI, hn, hx, ho])
   (try refine nr ?_);(repeat first|refine nb_ ?_|refine nl_ ?_);refine endK.o [4] [] [] ?_;simp [hF, retK, covers, mpre, hc]
theorem reachE_valid {L : List Tg} (hL : ItemsOk L) (all : Bool) {x : Int} (hx : 0 ≤ x ∧ x < L.length) : ∀ z ∈ reachE L all x, 0 ≤ z ∧ z < L.length := by
 obtain ⟨e, h1, h2⟩ := rV_ext (ok := okF L all) (L := L) (Q := fun z => 0 ≤ z ∧ z < L.length) (fun y _ z hz => itemsOf_ok hL y z hz) L.length [] x hx
 intro z hz; rw [reachE, h1] at hz; exact h2 z (by simpa using hz)
theorem reachE_len {h : Hs} (hok : Hok h) (all : Bool) {x : Nat} (hx : x < h.things.length) : (reachE h.things all x).length ≤ 400 :=
 Nat.le_trans (nodup_len (rV_nodup _ _ _ (by simp)) (reachE_valid hok.items all ⟨by omega, by omega⟩)) hok.things
theorem reachE_nat {h : Hs} (hok : Hok h) (all : Bool) {x : Nat} (hx : x < h.things.length) {i : Nat} (hi : i < (reachE h.things all x).length) : ∃ k : Nat, (reachE h.things all x)[i] = k ∧ k < h.things.length := by
 have := reachE_valid hok.items all (x := x) ⟨by omega, by omega⟩ _ (List.getElem_mem hi)
 exact ⟨(reachE h.things all x)[i].toNat, by omega, by omega⟩
def softB (L : List Tg) (y : Int) : Bool := (gd L y).list && !(gd L y).frozen
def shblE (L : List Tg) (x : Int) : Bool := (reachE L false x).all fun y => !softB L y
theorem eshareable_ok (h : Hs) (hok : Hok h) (x : Nat) (hx : x < h.things.length) : Meets Try.prog 93 [] (.cons (avE h) (.cons (avInt x) .nil)) fun av X κ => av = avBool (shblE h.things x) ∧ X = [] ∧ κ = [] := by
 have hrl := reachE_len hok false hx
 have hLv : ∀ i, (hi : i < (reachE h.things false x).length) → ∃ k : Nat, (reachE h.things false x)[i] = k ∧ k < h.things.length := fun i hi => reachE_nat hok false hx hi
 refine fb Try.func93 Try.ntmps93 [.tmp 4] fun w0 I0 F0 hF => ?_
 repeat first|refine n1 ?_|((first|refine rg 0 [0, 1] [0, 1] [] ?_|refine rg 1 [0, 1] [0, 5] [] ?_);simp (maxSteps := 1000000) [hF])
 refine (ereach_n h hok false x hx).go [] (by simp (maxSteps := 1000000) [hF]) ?_;rintro av X κ ⟨rfl, rfl, rfl⟩;simp (maxSteps := 1000000) [hF]
 repeat first|refine n1 ?_|refine n3 ?_|(refine rg 2 [0, 5] [0, 5, 6] [] ?_;simp (maxSteps := 1000000) [hF])
 refine VS.cool 5 (by simp (maxSteps := 1000000) [hF]) ?_;simp [hF, St.cool]
 have hd : shblE h.things x = (reachE h.things false x).all fun y => !softB h.things y := rfl
 generalize hL : reachE h.things false (x : Int) = L at *
 refine VS.pick [0, 5, 6] [] (by simp [hF]) ?_;simp [hF]
 refine VS.rounds (fun m st => ∃ (i : Nat), i + m = L.length ∧ (∀ j, (h' : j < L.length) → j < i → softB h.things L[j] = false) ∧ st = ⟨[(0, avE h), (5, .imm 1 (dInts L) false), (6, avInt i)], [], [], []⟩) ⟨L.length, 0, by omega, by omega, by simp⟩ ?_
 rintro m st ⟨i, hi, hall, rfl⟩
 repeat first|refine n1 ?_|((first|refine rg 3 [0, 5, 6] [0, 5, 6, 13] [] ?_|refine nc ?_);simp (maxSteps := 1000000) [hF])
 refine ⟨fun hlt => ?_, fun hge => ?_⟩
 ·obtain ⟨y, hy, hyl⟩ := hLv i hlt
  have hn := eTgs_nth (o := false) hyl
  have hin : (dInts L).nth i = .val (.int .i64 y) := by rw [dInts_nth hlt, hy]
  have hw1 : IntKind.i64.wrap ((i : Int) + 1) = (i + 1 : Nat) := by rw [IntWalk.i64_in _ (by omega)]; rfl
  cases hl : h.things[y].list with
  | false =>
   rw [hl] at hn
   repeat first|refine n1 ?_|refine n2 ?_|refine n3 ?_|refine n4 ?_|refine n5 ?_|refine n6 ?_|((first|refine rg 4 [0, 5, 6] [0, 5, 6] [] ?_|(refine dr 5 0 [0, 5, 6] [0, 5, 6, 40] [(11, 27)] [⟨0, 1, 65536, 5⟩, ⟨1, 65536, 131072, 5⟩, ⟨2, 131072, 262144, 5⟩, ⟨4, 262144, 524288, 6⟩, ⟨0, 32, 1048576, 5⟩, ⟨0, 64, 2097152, 5⟩, ⟨48, 3145728, 4194304, 5⟩, ⟨64, 4194304, 8388608, 6⟩, ⟨136, 8912896, 16777216, 5⟩, ⟨256, 16777216, 33554432, 5⟩, ⟨512, 33554432, 67108864, 6⟩, ⟨1024, 67108864, 134217728, 5⟩, ⟨2048, 134217729, 268435456, 5⟩, ⟨6144, 402653184, 536870912, 5⟩, ⟨10240, 671088640, 1073741824, 5⟩, ⟨18432, 1207959552, 2147483648, 6⟩, ⟨2048, 134217760, 4294967296, 5⟩, ⟨2048, 134217792, 8589934592, 5⟩, ⟨198656, 13019119616, 17179869184, 5⟩, ⟨264192, 17314086912, 34359738368, 6⟩, ⟨559104, 36641439744, 68719476736, 5⟩, ⟨1050624, 68853694464, 137438953472, 5⟩, ⟨2099200, 137573171200, 274877906944, 6⟩, ⟨4196352, 275012124672, 549755813888, 5⟩, ⟨8390656, 549890031616, 1099511627776, 5⟩] (.take 0 (.take 1 (.take 2 (.take 3 (.take 4 (.take 5 (.take 6 (.take 7 (.take 8 (.take 9 (.take 10 (.take 11 (.take 12 (.take 13 (.take 14 (.take 15 (.take 16 (.take 17 (.take 18 (.take 19 (.take 20 (.take 21 (.take 22 (.take 23 (.take 24 (.done)))))))))))))))))))))))))) (.run [0, 1, 2, 3, 4, 5, 6, 7, 8, 9, 10, 11, 12, 13, 14, 15, 16, 17, 18, 19, 20, 21, 22, 23, 24] (.done)) ?_;simp only [drs])|refine nc ?_);simp (maxSteps := 1000000) [hF, hin, hlt, eHI, hn, hyl, hw1])
   refine nextK.of [0, 5, 6] [] (m - 1) (by omega) (by simp [hF]) ?_
   refine ⟨i + 1, by omega, fun j h' hj => ?_, by simp [eHI]⟩
   rcases Nat.lt_or_ge j i with h2 | h2
   ·exact hall j h' h2
   ·obtain rfl : j = i := by omega
    rw [hy, softB, gd_at hyl, hl]; rfl
  | true =>
   cases hf : h.things[y].frozen with
   | true =>
    rw [hl, hf] at hn
    repeat first|refine n1 ?_|refine n2 ?_|refine n3 ?_|refine n4 ?_|refine n5 ?_|refine n6 ?_|((first|refine rg 4 [0, 5, 6] [0, 5, 6] [] ?_|(refine dr 5 0 [0, 5, 6] [0, 5, 6, 40] [(11, 27)] [⟨0, 1, 65536, 5⟩, ⟨1, 65536, 131072, 5⟩, ⟨2, 131072, 262144, 5⟩, ⟨4, 262144, 524288, 6⟩, ⟨0, 32, 1048576, 5⟩, ⟨0, 64, 2097152, 5⟩, ⟨48, 3145728, 4194304, 5⟩, ⟨64, 4194304, 8388608, 6⟩, ⟨136, 8912896, 16777216, 5⟩, ⟨256, 16777216, 33554432, 5⟩, ⟨512, 33554432, 67108864, 6⟩, ⟨1024, 67108864, 134217728, 5⟩, ⟨2048, 134217729, 268435456, 5⟩, ⟨6144, 402653184, 536870912, 5⟩, ⟨10240, 671088640, 1073741824, 5⟩, ⟨18432, 1207959552, 2147483648, 6⟩, ⟨2048, 134217760, 4294967296, 5⟩, ⟨2048, 134217792, 8589934592, 5⟩, ⟨198656, 13019119616, 17179869184, 5⟩, ⟨264192, 17314086912, 34359738368, 6⟩, ⟨559104, 36641439744, 68719476736, 5⟩, ⟨1050624, 68853694464, 137438953472, 5⟩, ⟨2099200, 137573171200, 274877906944, 6⟩, ⟨4196352, 275012124672, 549755813888, 5⟩, ⟨8390656, 549890031616, 1099511627776, 5⟩] (.take 0 (.take 1 (.take 2 (.take 3 (.take 4 (.take 5 (.take 6 (.take 7 (.take 8 (.take 9 (.take 10 (.take 11 (.take 12 (.take 13 (.take 14 (.take 15 (.take 16 (.take 17 (.take 18 (.take 19 (.take 20 (.take 21 (.take 22 (.take 23 (.take 24 (.done)))))))))))))))))))))))))) (.run [0, 1, 2, 3, 4, 5, 6, 7, 8, 9, 10, 11, 12, 13, 14, 15, 16, 17, 18, 19, 20, 21, 22, 23, 24] (.done)) ?_;simp only [drs])|refine nc ?_);simp (maxSteps := 1000000) [hF, hin, hlt, eHI, hn, hyl, hw1])
    refine nextK.of [0, 5, 6] [] (m - 1) (by omega) (by simp [hF]) ?_
    refine ⟨i + 1, by omega, fun j h' hj => ?_, by simp [eHI]⟩
    rcases Nat.lt_or_ge j i with h2 | h2
    ·exact hall j h' h2
    ·obtain rfl : j = i := by omega
     rw [hy, softB, gd_at hyl, hl, hf]; rfl
   | false =>
    rw [hl, hf] at hn
    have hc : shblE h.things x = false := by
     rw [hd, List.all_eq_false]
     exact ⟨_, List.getElem_mem hlt, by rw [hy, softB, gd_at hyl, hl, hf]; simp⟩
    repeat first|refine n1 ?_|refine n2 ?_|refine n3 ?_|((first|(refine dr 5 0 [0, 5, 6] [0, 5, 6, 40] [(11, 27)] [⟨0, 1, 65536, 5⟩, ⟨1, 65536, 131072, 5⟩, ⟨2, 131072, 262144, 5⟩, ⟨4, 262144, 524288, 6⟩, ⟨0, 32, 1048576, 5⟩, ⟨0, 64, 2097152, 5⟩, ⟨48, 3145728, 4194304, 5⟩, ⟨64, 4194304, 8388608, 6⟩, ⟨136, 8912896, 16777216, 5⟩, ⟨256, 16777216, 33554432, 5⟩, ⟨512, 33554432, 67108864, 6⟩, ⟨1024, 67108864, 134217728, 5⟩, ⟨2048, 134217729, 268435456, 5⟩, ⟨6144, 402653184, 536870912, 5⟩, ⟨10240, 671088640, 1073741824, 5⟩, ⟨18432, 1207959552, 2147483648, 6⟩, ⟨2048, 134217760, 4294967296, 5⟩, ⟨2048, 134217792, 8589934592, 5⟩, ⟨198656, 13019119616, 17179869184, 5⟩, ⟨264192, 17314086912, 34359738368, 6⟩, ⟨559104, 36641439744, 68719476736, 5⟩, ⟨1050624, 68853694464, 137438953472, 5⟩, ⟨2099200, 137573171200, 274877906944, 6⟩, ⟨4196352, 275012124672, 549755813888, 5⟩, ⟨8390656, 549890031616, 1099511627776, 5⟩] (.take 0 (.take 1 (.take 2 (.take 3 (.take 4 (.take 5 (.take 6 (.take 7 (.take 8 (.take 9 (.take 10 (.take 11 (.take 12 (.take 13 (.take 14 (.take 15 (.take 16 (.take 17 (.take 18 (.take 19 (.take 20 (.take 21 (.take 22 (.take 23 (.take 24 (.done)))))))))))))))))))))))))) (.run [0, 1, 2, 3, 4, 5, 6, 7, 8, 9, 10, 11, 12, 13, 14, 15, 16, 17, 18, 19, 20, 21, 22, 23, 24] (.done)) ?_;simp only [drs])|refine rg 6 [] [4] [] ?_|refine nc ?_);simp (maxSteps := 1000000) [hF, hin, hlt, eHI, hn, hyl, hw1])
    (try refine nr ?_);(repeat first|refine nb_ ?_|refine nl_ ?_);refine endK.o [4] [] [] ?_;simp [hF, retK, covers, mpre, hc]
 ·have hc : shblE h.things x = true := by
   rw [hd, List.all_eq_true]
   intro z hz
   obtain ⟨j, hj, rfl⟩ := List.getElem_of_mem hz
   rw [hall j hj (by omega)]; rfl
  repeat first|refine n1 ?_|refine n7 ?_|(refine rg 7 [] [4] [] ?_;simp (maxSteps := 1000000) [hF])
  (try refine nr ?_);(repeat first|refine nb_ ?_|refine nl_ ?_);refine endK.o [4] [] [] ?_;simp [hF, retK, covers, mpre, hc]
theorem esending_ok (h : Hs) (who to : Nat) (hw : who < h.rooms.length) (ht : to < h.rooms.length) (x : Int) (hx : isT h x = true) : Meets Try.prog 95 [] (.cons (avE h) (.cons (avInt who) (.cons (avInt to) (.cons (avInt x) .nil))))
  fun av X κ => av = avInt (if overB h to = true then 8 else stateOf h who [x]) ∧ X = [] ∧ κ = [] := by
 have hn := eRms_nth (o := false) ht
 have hov : overB h to = h.rooms[to].over := by simp [overB, ht]
 cases ho : h.rooms[to].over with
 | true =>
  rw [ho] at hn
  refine fb Try.func95 Try.ntmps95 [.tmp 8] fun w0 I0 F0 hF => ?_
  repeat first|refine n1 ?_|((first|refine rg 0 [0, 1, 2, 3] [0, 1, 2, 3] [] ?_|refine rg 1 [0, 1, 2, 3] [0, 1, 3, 16] [] ?_|refine rg 2 [] [8] [] ?_|refine nc ?_);simp (maxSteps := 1000000) [hF, eHI, hn, ht])
  (try refine nr ?_);(repeat first|refine nb_ ?_|refine nl_ ?_);refine endK.o [8] [] [] ?_;simp [hF, retK, covers, mpre, hov, ho]
 | false =>
  rw [ho] at hn
  refine fb Try.func95 Try.ntmps95 [.tmp 8] fun w0 I0 F0 hF => ?_
  repeat first|refine n1 ?_|refine n2 ?_|((first|refine rg 0 [0, 1, 2, 3] [0, 1, 2, 3] [] ?_|refine rg 1 [0, 1, 2, 3] [0, 1, 3, 16] [] ?_|refine rg 3 [0, 1, 3] [8] [] ?_|refine nc ?_);simp (maxSteps := 1000000) [hF, eHI, hn, ht])
  refine (estate_s1 h who hw true x hx).go [(0, [])] (by simp (maxSteps := 1000000) [hF, eHI]) ?_;rintro av X κ ⟨rfl, rfl, rfl⟩;simp (maxSteps := 1000000) [hF, eHI]
  (try refine nr ?_);(repeat first|refine nb_ ?_|refine nl_ ?_);refine endK.o [8] [] [] ?_;simp [hF, retK, covers, mpre, hov, ho]
theorem eheld_ok (h : Hs) (hok : Hok h) (who : Nat) (hw : who < h.rooms.length) (l : List Int) (e : Bool) (hl : l.length ≤ 400) : Meets Try.prog 96 [] (.cons (avE h) (.cons (avInt who) (.cons (.imm 1 (dInts l) e) .nil)))
  fun av X κ => av = avBool (tiedOf h who l) ∧ X = [] ∧ κ = [] := by
 have hbd := hok.things
 refine fb Try.func96 Try.ntmps96 [.tmp 6] fun w0 I0 F0 hF => ?_
 repeat first|refine n1 ?_|refine n3 ?_|((first|refine rg 0 [0, 1, 2] [0, 1, 2] [] ?_|refine rg 1 [0, 1, 2] [0, 1, 2, 7] [] ?_);simp (maxSteps := 1000000) [hF, eHI])
 refine VS.rounds (fun m st => ∃ (i : Nat), i + m = h.things.length ∧ (∀ y, y < i → tiedAt h who l y = false) ∧ st = ⟨[(0, avE h), (1, avInt who), (2, .imm 1 (dInts l) e), (7, avInt i)], [], [], []⟩) ⟨h.things.length, 0, by omega, by omega, by simp [eHI]⟩ ?_
 rintro m st ⟨i, hi, hall, rfl⟩
 repeat first|refine n1 ?_|((first|refine rg 2 [0, 1, 2, 7] [0, 1, 2, 7, 17] [] ?_|refine nc ?_);simp (maxSteps := 1000000) [hF, eHI])
 refine ⟨fun hlt => ?_, fun hge => ?_⟩
 ·have hn := eTgs_nth (o := false) hlt
  have hil := hok.few _ (List.getElem_mem hlt)
  have hw1 : IntKind.i64.wrap ((i : Int) + 1) = (i + 1 : Nat) := by rw [IntWalk.i64_in _ (by omega)]; rfl
  by_cases ho : h.things[i].owner = who
  ·repeat first|refine n1 ?_|refine n2 ?_|refine n3 ?_|(refine rg 4 [0, 1, 2, 7] [0, 1, 2, 7, 34] [(10, 30)] ?_;simp (maxSteps := 1000000) [hF, eHI, hn, hlt, ho])
   cases hc : hasN l (i : Int) with
   | true =>
    have ht : tiedAt h who l i = false := by simp [tiedAt, hc]
    refine (ehas_ok e l (by omega) i).go [] (by simp (maxSteps := 1000000) [hF, hc]) ?_;rintro av X κ ⟨rfl, rfl, rfl⟩;simp (maxSteps := 1000000) [hF, hc]
    repeat first|refine n4 ?_|refine n6 ?_|refine n7 ?_|refine n8 ?_|((first|refine rg 3 [0, 1, 2, 7] [0, 1, 2, 7] [] ?_|refine nc ?_);simp (maxSteps := 1000000) [hF, hc, hw1])
    refine nextK.of [0, 1, 2, 7] [] (m - 1) (by omega) (by simp [hF]) ?_
    refine ⟨i + 1, by omega, fun y hy => ?_, by simp [eHI]⟩
    rcases Nat.lt_or_ge y i with h' | h'
    ·exact hall y h'
    ·obtain rfl : y = i := by omega
     exact ht
   | false =>
    refine (ehas_ok e l (by omega) i).go [] (by simp (maxSteps := 1000000) [hF, hc]) ?_;rintro av X κ ⟨rfl, rfl, rfl⟩;simp (maxSteps := 1000000) [hF, hc]
    have htt : tiedAt h who l i = h.things[i].items.any (hasN l) := by simp [tiedAt, hc, hlt, ho]
    repeat first|refine n1 ?_|refine n2 ?_|refine n3 ?_|((first|refine rg 5 [0, 1, 2, 7] [0, 1, 2, 7, 8] [] ?_|refine nc ?_);simp (maxSteps := 1000000) [hF])
    refine VS.rounds (fun m2 st => ∃ (j : Nat), j + m2 = h.things[i].items.length ∧ (∀ k, (h' : k < h.things[i].items.length) → k < j → hasN l h.things[i].items[k] = false) ∧ st = ⟨[(0, avE h), (1, avInt who), (2, .imm 1 (dInts l) e), (7, avInt i), (8, avInt j)], [], [], []⟩) ⟨h.things[i].items.length, 0, by omega, by omega, by simp [eHI]⟩ ?_
    rintro m2 st ⟨j, hj, hall2, rfl⟩
    repeat first|refine n1 ?_|((first|refine rg 6 [0, 1, 2, 7, 8] [0, 1, 2, 7, 8, 45] [] ?_|refine nc ?_);simp (maxSteps := 1000000) [hF, eHI, hn, hlt])
    refine ⟨fun hlt2 => ?_, fun hge2 => ?_⟩
    ·have hn2 := dInts_nth hlt2
     have hw2 : IntKind.i64.wrap ((j : Int) + 1) = (j + 1 : Nat) := by rw [IntWalk.i64_in _ (by omega)]; rfl
     repeat first|refine n1 ?_|refine n2 ?_|refine n3 ?_|(refine rg 8 [0, 1, 2, 7, 8] [0, 1, 2, 7, 8, 60] [] ?_;simp (maxSteps := 1000000) [hF, eHI, hn, hlt, hn2, hlt2])
     cases hb : hasN l h.things[i].items[j] with
     | true =>
      have hc2 : tiedOf h who l = true := by
       have : (List.range h.things.length).any (tiedAt h who l) = true := List.any_eq_true.2 ⟨i, by simpa using hlt, by rw [htt]; exact List.any_eq_true.2 ⟨_, List.getElem_mem hlt2, hb⟩⟩
       simp [tiedOf, this]
      refine (ehas_ok e l (by omega) h.things[i].items[j]).go [] (by simp (maxSteps := 1000000) [hF, hb]) ?_;rintro av X κ ⟨rfl, rfl, rfl⟩;simp (maxSteps := 1000000) [hF, hb]
      repeat first|refine n1 ?_|((first|refine rg 9 [] [6] [] ?_|refine nc ?_);simp (maxSteps := 1000000) [hF, hb])
      (try refine nr ?_);(repeat first|refine nb_ ?_|refine nl_ ?_);refine endK.o [6] [] [] ?_;simp [hF, retK, covers, mpre, hc2]
     | false =>
      refine (ehas_ok e l (by omega) h.things[i].items[j]).go [] (by simp (maxSteps := 1000000) [hF, hb]) ?_;rintro av X κ ⟨rfl, rfl, rfl⟩;simp (maxSteps := 1000000) [hF, hb]
      repeat first|refine n2 ?_|refine n4 ?_|refine n5 ?_|refine n6 ?_|((first|refine rg 7 [0, 1, 2, 7, 8] [0, 1, 2, 7, 8] [] ?_|refine nc ?_);simp (maxSteps := 1000000) [hF, hb, hw2])
      refine nextK.of [0, 1, 2, 7, 8] [] (m2 - 1) (by omega) (by simp [hF]) ?_
      refine ⟨j + 1, by omega, fun k h' hk => ?_, by simp [eHI]⟩
      rcases Nat.lt_or_ge k j with h2 | h2
      ·exact hall2 k h' h2
      ·obtain rfl : k = j := by omega
       exact hb
    ·have ha : h.things[i].items.any (hasN l) = false := by
      rw [List.any_eq_false]
      intro z hz
      obtain ⟨k, hk, rfl⟩ := List.getElem_of_mem hz
      rw [hall2 k hk (by omega)]; simp
     repeat first|refine n4 ?_|refine n5 ?_|refine n6 ?_|refine n7 ?_|(refine rg 3 [0, 1, 2, 7] [0, 1, 2, 7] [] ?_;simp (maxSteps := 1000000) [hF, hw1])
     refine nextK.of [0, 1, 2, 7] [] (m - 1) (by omega) (by simp [hF]) ?_
     refine ⟨i + 1, by omega, fun y hy => ?_, by simp [eHI]⟩
     rcases Nat.lt_or_ge y i with h' | h'
     ·exact hall y h'
     ·obtain rfl : y = i := by omega
      rw [htt, ha]
  ·have ht : tiedAt h who l i = false := by simp [tiedAt, hlt, ho]
   repeat first|refine n1 ?_|refine n2 ?_|refine n3 ?_|refine n4 ?_|refine n6 ?_|refine n7 ?_|refine n8 ?_|((first|refine rg 3 [0, 1, 2, 7] [0, 1, 2, 7] [] ?_|refine rg 4 [0, 1, 2, 7] [0, 1, 2, 7, 34] [(10, 30)] ?_|refine nc ?_);simp (maxSteps := 1000000) [hF, eHI, hn, hlt, ho, hw1])
   refine nextK.of [0, 1, 2, 7] [] (m - 1) (by omega) (by simp [hF]) ?_
   refine ⟨i + 1, by omega, fun y hy => ?_, by simp [eHI]⟩
   rcases Nat.lt_or_ge y i with h' | h'
   ·exact hall y h'
   ·obtain rfl : y = i := by omega
    exact ht
 ·have hr : (List.range h.things.length).any (tiedAt h who l) = false := by
   rw [List.any_eq_false]
   intro y hy
   rw [hall y (by rw [List.mem_range] at hy; omega)]; simp
  have hn := eRms_nth (o := false) hw
  have hql := (hok.queues _ (List.getElem_mem hw)).1
  have hc : tiedOf h who l = h.rooms[who].queue.any (hasN l) := by simp [tiedOf, hr, hw]
  generalize hQ : h.rooms[who].queue = Q at *
  repeat first|refine n1 ?_|refine n3 ?_|refine n7 ?_|((first|refine rg 10 [0, 1, 2] [2, 9] [] ?_|refine rg 11 [2, 9] [2, 9, 10] [] ?_);simp (maxSteps := 1000000) [hF, eHI, hn, hw])
  refine VS.rounds (fun m st => ∃ (i : Nat), i + m = Q.length ∧ (∀ k, (h' : k < Q.length) → k < i → hasN l Q[k] = false) ∧ st = ⟨[(2, .imm 1 (dInts l) e), (9, .imm 1 (dInts Q) false), (10, avInt i)], [], [], []⟩) ⟨Q.length, 0, by omega, by omega, by simp⟩ ?_
  rintro m st ⟨j, hj, hall2, rfl⟩
  repeat first|refine n1 ?_|((first|refine rg 12 [2, 9, 10] [2, 9, 10, 72] [] ?_|refine nc ?_);simp (maxSteps := 1000000) [hF])
  refine ⟨fun hlt2 => ?_, fun hge2 => ?_⟩
  ·have hn2 := dInts_nth hlt2
   have hw2 : IntKind.i64.wrap ((j : Int) + 1) = (j + 1 : Nat) := by rw [IntWalk.i64_in _ (by omega)]; rfl
   repeat first|refine n1 ?_|refine n2 ?_|refine n3 ?_|(refine rg 14 [2, 9, 10] [2, 9, 10, 80] [] ?_;simp (maxSteps := 1000000) [hF, hn2, hlt2])
   cases hb : hasN l Q[j] with
   | true =>
    have hc2 : tiedOf h who l = true := by rw [hc]; exact List.any_eq_true.2 ⟨_, List.getElem_mem hlt2, hb⟩
    refine (ehas_ok e l (by omega) Q[j]).go [] (by simp (maxSteps := 1000000) [hF, hb]) ?_;rintro av X κ ⟨rfl, rfl, rfl⟩;simp (maxSteps := 1000000) [hF, hb]
    repeat first|refine n1 ?_|((first|refine rg 15 [] [6] [] ?_|refine nc ?_);simp (maxSteps := 1000000) [hF, hb])
    (try refine nr ?_);(repeat first|refine nb_ ?_|refine nl_ ?_);refine endK.o [6] [] [] ?_;simp [hF, retK, covers, mpre, hc2]
   | false =>
    refine (ehas_ok e l (by omega) Q[j]).go [] (by simp (maxSteps := 1000000) [hF, hb]) ?_;rintro av X κ ⟨rfl, rfl, rfl⟩;simp (maxSteps := 1000000) [hF, hb]
    repeat first|refine n2 ?_|refine n4 ?_|refine n5 ?_|refine n6 ?_|((first|refine rg 13 [2, 9, 10] [2, 9, 10] [] ?_|refine nc ?_);simp (maxSteps := 1000000) [hF, hb, hw2])
    refine nextK.of [2, 9, 10] [] (m - 1) (by omega) (by simp [hF]) ?_
    refine ⟨j + 1, by omega, fun k h' hk => ?_, by simp⟩
    rcases Nat.lt_or_ge k j with h2 | h2
    ·exact hall2 k h' h2
    ·obtain rfl : k = j := by omega
     exact hb
  ·have hc2 : tiedOf h who l = false := by
    rw [hc, List.any_eq_false]
    intro z hz
    obtain ⟨k, hk, rfl⟩ := List.getElem_of_mem hz
    rw [hall2 k hk (by omega)]; simp
   repeat first|refine n1 ?_|refine n7 ?_|(refine rg 16 [] [6] [] ?_;simp (maxSteps := 1000000) [hF])
   (try refine nr ?_);(repeat first|refine nb_ ?_|refine nl_ ?_);refine endK.o [6] [] [] ?_;simp [hF, retK, covers, mpre, hc2]
def eCl (c : Cl) : D := .agg (.cons (.val (.bool c.list)) (.cons (.val (.int .i64 c.word)) (.cons (.sl true () 1 (dInts c.items)) .nil)))
def eCls (l : List Cl) : D := sq (l.map eCl)
@[simp] theorem eCls_len (l : List Cl) : (eCls l).len = l.length := by simp [eCls]
theorem ixE_eq {l : List Int} (hn : l.Nodup) {n : Nat} (h : n < l.length) : ixE l l[n] = n := by
 refine ixF_hit h (fun j hj => ?_) (by simp)
 have : ¬ l[j] = l[n] := fun e => by
  have := (List.getElem_inj hn).1 e
  omega
 simpa using this
theorem ixE_ne {l : List Int} {n : Nat} (h : n < l.length) {z : Int} (hz : ¬ l[n] = z) : ¬ ixE l z = n := by
 intro e
 have h0 : 0 ≤ ixE l z := by omega
 rw [ixE, ixF_ge] at h0
 unfold ixE ixF at e
 rw [if_pos h0] at e
 have hlt : l.findIdx (fun x => decide (x = z)) < l.length := List.findIdx_lt_length_of_exists (by obtain ⟨x, hx, hp⟩ := List.any_eq_true.1 h0; exact ⟨x, hx, hp⟩)
 have h1 := List.findIdx_getElem (w := hlt)
 have e' : l.findIdx (fun x => decide (x = z)) = n := by omega
 simp only [e', decide_eq_true_eq] at h1
 exact hz h1
theorem ewho_c (h : Hs) (fl : Nat → Bool) (who : Int) : Meets Try.prog 86 [eH h fl] (.cons (.ptr 0 [.d]) (.cons (avInt who) .nil)) fun av X κ => av = avBool (isR h who) ∧ X = [eH h fl] ∧ κ = [] :=
 warmE (ewho_ok h who) rfl rfl (by simp) rfl
theorem ething_c (h : Hs) (fl : Nat → Bool) (x : Int) : Meets Try.prog 91 [eH h fl] (.cons (.ptr 0 [.d]) (.cons (avInt x) .nil)) fun av X κ => av = avBool (isT h x) ∧ X = [eH h fl] ∧ κ = [] :=
 warmE (ething_ok h x) rfl rfl (by simp) rfl
theorem ethings_c (h : Hs) (fl : Nat → Bool) (ex : Bool) (l : List Int) (hl : l.length ≤ 100000000) : Meets Try.prog 89 [eH h fl] (.cons (.ptr 0 [.d]) (.cons (.imm 1 (dInts l) ex) .nil)) fun av X κ => av = avBool (l.all (isT h)) ∧ X = [eH h fl] ∧ κ = [] :=
 warmE (ethings_ok h ex l hl) rfl rfl (by simp) rfl
theorem eitem_c (h : Hs) (fl : Nat → Bool) (x i : Int) : Meets Try.prog 90 [eH h fl] (.cons (.ptr 0 [.d]) (.cons (avInt x) (.cons (avInt i) .nil))) fun av X κ => av = avBool (itemB h x i) ∧ X = [eH h fl] ∧ κ = [] :=
 warmE (eitem_ok h x i) rfl rfl (by simp) rfl
theorem estate_c (h : Hs) (fl : Nat → Bool) (who : Nat) (hk : who < h.rooms.length) (ex : Bool) (l : List Int) (hl : l.length ≤ 100000000) (hv : ∀ x ∈ l, isT h x = true) : Meets Try.prog 87 [eH h fl] (.cons (.ptr 0 [.d]) (.cons (avInt who) (.cons (.imm 1 (dInts l) ex) .nil)))
  fun av X κ => av = avInt (stateOf h who l) ∧ X = [eH h fl] ∧ κ = [] := warmE (estate_ok h who hk ex l hl hv) rfl rfl (by simp) rfl
theorem estate_c1 (h : Hs) (fl : Nat → Bool) (who : Nat) (hk : who < h.rooms.length) (ex : Bool) (x : Int) (hv : isT h x = true) : Meets Try.prog 87 [eH h fl, .sl true () 1 (.cons (.val (.int .i64 x)) .nil)] (.cons (.ptr 0 [.d]) (.cons (avInt who) (.cons (.sub 1 [] 0 1 ex) .nil)))
  fun av X κ => av = avInt (stateOf h who [x]) ∧ X = [eH h fl, .sl true () 1 (.cons (.val (.int .i64 x)) .nil)] ∧ κ = [] := warmE (estate_s1 h who hk ex x hv) rfl rfl (by simp [T.allOwn]) rfl
theorem estate_c2 (h : Hs) (fl : Nat → Bool) (who : Nat) (hk : who < h.rooms.length) (ex : Bool) (x y : Int) (hv : isT h x = true) (hv2 : isT h y = true) : Meets Try.prog 87 [eH h fl, .sl true () 1 (.cons (.val (.int .i64 x)) (.cons (.val (.int .i64 y)) .nil))] (.cons (.ptr 0 [.d]) (.cons (avInt who) (.cons (.sub 1 [] 0 2 ex) .nil)))
  fun av X κ => av = avInt (stateOf h who [x, y]) ∧ X = [eH h fl, .sl true () 1 (.cons (.val (.int .i64 x)) (.cons (.val (.int .i64 y)) .nil))] ∧ κ = [] := warmE (estate_s2 h who hk ex x y hv hv2) rfl rfl (by simp [T.allOwn]) rfl
theorem estate_cn (h : Hs) (fl : Nat → Bool) (who : Nat) (hk : who < h.rooms.length) : Meets Try.prog 87 [eH h fl] (.cons (.ptr 0 [.d]) (.cons (avInt who) (.cons (.nils 1) .nil)))
  fun av X κ => av = avInt (stateOf h who []) ∧ X = [eH h fl] ∧ κ = [] := warmE (estate_n h who hk) rfl rfl (by simp) rfl
theorem ereach_c (h : Hs) (fl : Nat → Bool) (hok : Hok h) (all : Bool) (x : Nat) (hx : x < h.things.length) : Meets Try.prog 94 [eH h fl] (.cons (.ptr 0 [.d]) (.cons (avInt x) (.cons (.nils 1) (.cons (avBool all) .nil))))
  fun av X κ => av = .sub 1 [] 0 (reachE h.things all x).length false ∧ X = [eH h fl, .sl true () 1 (dInts (reachE h.things all x))] ∧ κ = [] := warmE (ereach_n h hok all x hx) rfl rfl (by simp [T.allOwn]) rfl
theorem eshareable_c (h : Hs) (fl : Nat → Bool) (hok : Hok h) (x : Nat) (hx : x < h.things.length) : Meets Try.prog 93 [eH h fl] (.cons (.ptr 0 [.d]) (.cons (avInt x) .nil)) fun av X κ => av = avBool (shblE h.things x) ∧ X = [eH h fl] ∧ κ = [] :=
 warmE (eshareable_ok h hok x hx) rfl rfl (by simp) rfl
theorem esending_c (h : Hs) (fl : Nat → Bool) (who to : Nat) (hw : who < h.rooms.length) (ht : to < h.rooms.length) (x : Int) (hx : isT h x = true) : Meets Try.prog 95 [eH h fl] (.cons (.ptr 0 [.d]) (.cons (avInt who) (.cons (avInt to) (.cons (avInt x) .nil))))
  fun av X κ => av = avInt (if overB h to = true then 8 else stateOf h who [x]) ∧ X = [eH h fl] ∧ κ = [] := warmE (esending_ok h who to hw ht x hx) rfl rfl (by simp) rfl
theorem eheld_c (h : Hs) (fl : Nat → Bool) (hok : Hok h) (who : Nat) (hw : who < h.rooms.length) (l : List Int) (ex : Bool) (hl : l.length ≤ 400) : Meets Try.prog 96 [eH h fl] (.cons (.ptr 0 [.d]) (.cons (avInt who) (.cons (.imm 1 (dInts l) ex) .nil)))
  fun av X κ => av = avBool (tiedOf h who l) ∧ X = [eH h fl] ∧ κ = [] := warmE (eheld_ok h hok who hw l ex hl) rfl rfl (by simp) rfl
theorem efrozen_c (h : Hs) (fl : Nat → Bool) (x : Nat) (hx : x < h.things.length) : Meets Try.prog 92 [eH h fl] (.cons (.ptr 0 [.d]) (.cons (avInt x) .nil)) fun av X κ => av = avBool (h.things[x].frozen || !notSh h.things x) ∧ X = [eH h fl] ∧ κ = [] :=
 warmE (efrozen_ok h x hx) rfl rfl (by simp) rfl
theorem etgs_mid (L : List Tg) (t : Tg) : (eTgs true (L ++ [t])).mid 0 (L.length + 1) = eTgs true (L ++ [t]) := by
 have := eTgs_mid_all true (L ++ [t])
 simpa using this
theorem eadd_l (h : Hs) (fl : Nat → Bool) (hl : h.things.length ≤ 400) (o : Int) (l : Bool) (w : Int) (its : List Int) (f : Bool) : Meets Try.prog 88 [eH h fl, .sl true () 1 (dInts its)]
  (.cons (.ptr 0 [.d]) (.cons (.agg (.cons (avBool l) (.cons (avBool f) (.cons (avInt w) (.cons (avInt o) (.cons (.sub 1 [] 0 its.length false) .nil)))))) .nil))
  fun av X κ => av = two (addOf h ⟨o, l, w, its, f⟩).2 ∧ X = [eH (addOf h ⟨o, l, w, its, f⟩).1 fl, .junk ()] ∧ κ = [(0, [.d]), (1, [])] := by
 have hp := eTgs_push true h.things o l w its f
 have hm := etgs_mid h.things ⟨o, l, w, its, f⟩
 have him : (dInts its).mid 0 its.length = dInts its := by simp
 by_cases hf : (400 : Int) ≤ h.things.length
 ·have hf' : 400 ≤ h.things.length := by omega
  have hc : addOf h ⟨o, l, w, its, f⟩ = (h, 0, 9) := by simp [addOf, hf']
  refine fb Try.func88 Try.ntmps88 [.tmp 4, .tmp 5] fun w0 I0 F0 hF => ?_
  refine ghostL 1 [] ?_;simp (maxSteps := 1000000) [hF, St.lift, AV.lift, liftPl, stripP, nodeAV, isNode]
  repeat first|refine n1 ?_|((first|refine rg 0 [0, 1] [0, 3] [] ?_|refine rg 1 [0, 3] [0, 3, 11] [] ?_|refine rg 2 [] [4, 5] [] ?_|refine nc ?_);simp (maxSteps := 1000000) [hF, eH, hf])
  refine VS.widen [(0, [.d]), (1, [])] (by simp [covers, mpre]) ?_
  (try refine nr ?_);(repeat first|refine nb_ ?_|refine nl_ ?_);refine endK.o [4, 5] [0, 1] [(0, [.d]), (1, [])] ?_;simp [hF, retK, covers, mpre, eH, hc]
 ·have hf' : ¬ 400 ≤ h.things.length := by omega
  have hc : addOf h ⟨o, l, w, its, f⟩ = ({ h with things := h.things ++ [(⟨o, l, w, its, f⟩ : Tg)] }, (h.things.length : Int), 0) := by simp [addOf, hf']
  have c1 : (h.things.length + 1) * 56 ≤ 140737488355328 := by omega
  have c1' : (h.things.length + 1) * 48 ≤ 140737488355328 := by omega
  have c2 : h.things.length ≤ 9223372036854775806 := by omega
  have hw : IntKind.i64.wrap ((h.things.length : Int) + 1 - 1) = h.things.length := by rw [IntWalk.i64_in _ (by omega)]; omega
  have hw' : IntKind.i64.wrap (h.things.length : Int) = h.things.length := IntWalk.i64_in _ (by omega)
  refine fb Try.func88 Try.ntmps88 [.tmp 4, .tmp 5] fun w0 I0 F0 hF => ?_
  refine ghostL 1 [] ?_;simp (maxSteps := 1000000) [hF, St.lift, AV.lift, liftPl, stripP, nodeAV, isNode]
  repeat first|refine n1 ?_|refine n2 ?_|((first|refine rg 0 [0, 1] [0, 3] [] ?_|refine rg 1 [0, 3] [0, 3, 11] [] ?_|refine nc ?_);simp (maxSteps := 1000000) [hF, eH, hf])
  refine ghostL 3 [.d, .f 4] ?_;simp (maxSteps := 1000000) [hF, St.lift, AV.lift, liftPl, stripP, nodeAV, isNode]
  refine ghostL 0 [.d, .f 2] ?_;simp (maxSteps := 1000000) [hF, St.lift, AV.lift, liftPl, stripP, nodeAV, isNode]
  repeat first|refine n1 ?_|((first|(refine dr 3 0 [0, 3] [0] [] [⟨0, 1, 4096, 5⟩, ⟨0, 1, 8192, 5⟩, ⟨2, 8192, 16384, 5⟩, ⟨4, 16384, 32768, 5⟩, ⟨8, 32768, 65536, 6⟩, ⟨0, 8, 131072, 6⟩, ⟨32, 131072, 262144, 4⟩, ⟨80, 327680, 524288, 0⟩, ⟨255, 4096, 1048576, 5⟩, ⟨511, 1048576, 2097152, 5⟩, ⟨767, 2621440, 0, 0⟩] (.take 0 (.take 1 (.take 2 (.take 3 (.take 4 (.take 5 (.fork (.alt 6 (.fork (.alt 7 (.take 8 (.take 9 (.fork (.alt 10 (.done) (.nil))))) (.nil))) (.nil))))))))) (.run [0, 1, 2, 3, 4, 5, 6, 7, 8, 9, 10] (.done)) ?_;simp only [drs])|refine rg 4 [0] [4, 5] [] ?_);simp (maxSteps := 1000000) [hF, hp, hm, him, c1, c1', c2, hw, hw'])
  refine VS.widen [(0, [.d]), (1, [])] (by simp [covers, mpre]) ?_
  (try refine nr ?_);(repeat first|refine nb_ ?_|refine nl_ ?_);refine endK.o [4, 5] [0, 1] [(0, [.d]), (1, [])] ?_;simp [hF, retK, covers, mpre, eH, hc]
theorem eadd_n (h : Hs) (fl : Nat → Bool) (hl : h.things.length ≤ 400) (o : Int) (l : Bool) (w : Int) (f : Bool) : Meets Try.prog 88 [eH h fl]
  (.cons (.ptr 0 [.d]) (.cons (.agg (.cons (avBool l) (.cons (avBool f) (.cons (avInt w) (.cons (avInt o) (.cons (.nils 1) .nil)))))) .nil))
  fun av X κ => av = two (addOf h ⟨o, l, w, [], f⟩).2 ∧ X = [eH (addOf h ⟨o, l, w, [], f⟩).1 fl] ∧ κ = [(0, [.d])] := by
 have hp := eTgs_push true h.things o l w [] f
 rw [dInts_nil] at hp
 have hm := etgs_mid h.things ⟨o, l, w, [], f⟩
 by_cases hf : (400 : Int) ≤ h.things.length
 ·have hf' : 400 ≤ h.things.length := by omega
  have hc : addOf h ⟨o, l, w, [], f⟩ = (h, 0, 9) := by simp [addOf, hf']
  refine fb Try.func88 Try.ntmps88 [.tmp 4, .tmp 5] fun w0 I0 F0 hF => ?_
  repeat first|refine n1 ?_|((first|refine rg 0 [0, 1] [0, 3] [] ?_|refine rg 1 [0, 3] [0, 3, 11] [] ?_|refine rg 2 [] [4, 5] [] ?_|refine nc ?_);simp (maxSteps := 1000000) [hF, eH, hf])
  refine VS.widen [(0, [.d])] (by simp [covers, mpre]) ?_
  (try refine nr ?_);(repeat first|refine nb_ ?_|refine nl_ ?_);refine endK.o [4, 5] [0] [(0, [.d])] ?_;simp [hF, retK, covers, mpre, eH, hc]
 ·have hf' : ¬ 400 ≤ h.things.length := by omega
  have hc : addOf h ⟨o, l, w, [], f⟩ = ({ h with things := h.things ++ [(⟨o, l, w, [], f⟩ : Tg)] }, (h.things.length : Int), 0) := by simp [addOf, hf']
  have c1 : (h.things.length + 1) * 56 ≤ 140737488355328 := by omega
  have c1' : (h.things.length + 1) * 48 ≤ 140737488355328 := by omega
  have c2 : h.things.length ≤ 9223372036854775806 := by omega
  have hw : IntKind.i64.wrap ((h.things.length : Int) + 1 - 1) = h.things.length := by rw [IntWalk.i64_in _ (by omega)]; omega
  have hw' : IntKind.i64.wrap (h.things.length : Int) = h.things.length := IntWalk.i64_in _ (by omega)
  refine fb Try.func88 Try.ntmps88 [.tmp 4, .tmp 5] fun w0 I0 F0 hF => ?_
  repeat first|refine n1 ?_|refine n2 ?_|((first|refine rg 0 [0, 1] [0, 3] [] ?_|refine rg 1 [0, 3] [0, 3, 11] [] ?_|refine nc ?_);simp (maxSteps := 1000000) [hF, eH, hf])
  refine ghostL 1 [.d, .f 4] ?_;simp (maxSteps := 1000000) [hF, St.lift, AV.lift, liftPl, stripP, nodeAV, isNode]
  refine ghostL 0 [.d, .f 2] ?_;simp (maxSteps := 1000000) [hF, St.lift, AV.lift, liftPl, stripP, nodeAV, isNode]
  repeat first|refine n1 ?_|((first|(refine dr 3 0 [0, 3] [0] [] [⟨0, 1, 4096, 5⟩, ⟨0, 1, 8192, 5⟩, ⟨2, 8192, 16384, 5⟩, ⟨4, 16384, 32768, 5⟩, ⟨8, 32768, 65536, 6⟩, ⟨0, 8, 131072, 6⟩, ⟨32, 131072, 262144, 4⟩, ⟨80, 327680, 524288, 0⟩, ⟨255, 4096, 1048576, 5⟩, ⟨511, 1048576, 2097152, 5⟩, ⟨767, 2621440, 0, 0⟩] (.take 0 (.take 1 (.take 2 (.take 3 (.take 4 (.take 5 (.fork (.alt 6 (.fork (.alt 7 (.take 8 (.take 9 (.fork (.alt 10 (.done) (.nil))))) (.nil))) (.nil))))))))) (.run [0, 1, 2, 3, 4, 5, 6, 7, 8, 9, 10] (.done)) ?_;simp only [drs])|refine rg 4 [0] [4, 5] [] ?_);simp (maxSteps := 1000000) [hF, hp, hm, c1, c1', c2, hw, hw'])
  refine VS.widen [(0, [.d])] (by simp [covers, mpre]) ?_
  (try refine nr ?_);(repeat first|refine nb_ ?_|refine nl_ ?_);refine endK.o [4, 5] [0] [(0, [.d])] ?_;simp [hF, retK, covers, mpre, eH, hc]
theorem eleaf_ok (h : Hs) (fl : Nat → Bool) (hl : h.things.length ≤ 400) (who w : Int) : Meets Try.prog 53 [eH h fl] (.cons (.ptr 0 [.d]) (.cons (avInt who) (.cons (avInt w) .nil)))
  fun av X κ => av = two (leafOf h who w).2 ∧ X = [eH (leafOf h who w).1 fl] ∧ κ = [(0, [.d])] := by
 have hw0 : IntKind.i64.wrap (-1000000000000000) = -1000000000000000 := by decide
 refine fb Try.func53 Try.ntmps53 [.tmp 6, .tmp 7] fun w0 I0 F0 hF => ?_
 repeat first|refine n1 ?_|((first|refine rg 0 [0, 1, 2] [0, 1, 2] [] ?_|refine rg 1 [0, 1, 2] [0, 1, 2, 20] [(4, 13), (8, 17)] ?_);simp (maxSteps := 1000000) [hF])
 cases hr : isR h who with
 | false =>
  have hz : askOf h who [] = 1 := by simp [askOf, hr]
  have hc : leafOf h who w = (h, 0, 1) := by simp [leafOf, hz]
  refine (ewho_c h fl who).go [(0, [])] (by simp (maxSteps := 1000000) [hF, hr, eH]) ?_;rintro av X κ ⟨rfl, rfl, rfl⟩;simp (maxSteps := 1000000) [hF, hr, eH]
  repeat first|refine n1 ?_|((first|refine rg 2 [] [6, 7] [] ?_|refine nc ?_);simp (maxSteps := 1000000) [hF])
  refine VS.widen [(0, [.d])] (by simp [covers, mpre]) ?_
  (try refine nr ?_);(repeat first|refine nb_ ?_|refine nl_ ?_);refine endK.o [6, 7] [0] [(0, [.d])] ?_;simp [hF, retK, covers, mpre, eH, hc]
 | true =>
  obtain ⟨k, rfl, hk⟩ := isR_nat hr
  by_cases h1 : w < -1000000000000000
  ·have hc : leafOf h k w = (h, 0, 1) := by simp [leafOf, h1]
   refine (ewho_c h fl k).go [(0, [])] (by simp (maxSteps := 1000000) [hF, hr, eH, h1]) ?_;rintro av X κ ⟨rfl, rfl, rfl⟩;simp (maxSteps := 1000000) [hF, hr, eH, h1]
   repeat first|refine n1 ?_|((first|refine rg 2 [] [6, 7] [] ?_|refine nc ?_);simp (maxSteps := 1000000) [hF])
   refine VS.widen [(0, [.d])] (by simp [covers, mpre]) ?_
   (try refine nr ?_);(repeat first|refine nb_ ?_|refine nl_ ?_);refine endK.o [6, 7] [0] [(0, [.d])] ?_;simp [hF, retK, covers, mpre, eH, hc]
  ·by_cases h2 : 1000000000000000 < w
   ·have hc : leafOf h k w = (h, 0, 1) := by simp [leafOf, h2]
    refine (ewho_c h fl k).go [(0, [])] (by simp (maxSteps := 1000000) [hF, hr, eH, h1, h2]) ?_;rintro av X κ ⟨rfl, rfl, rfl⟩;simp (maxSteps := 1000000) [hF, hr, eH, h1, h2]
    repeat first|refine n1 ?_|((first|refine rg 2 [] [6, 7] [] ?_|refine nc ?_);simp (maxSteps := 1000000) [hF])
    refine VS.widen [(0, [.d])] (by simp [covers, mpre]) ?_
    (try refine nr ?_);(repeat first|refine nb_ ?_|refine nl_ ?_);refine endK.o [6, 7] [0] [(0, [.d])] ?_;simp [hF, retK, covers, mpre, eH, hc]
   ·have hs := ask_state (l := []) hr (by simp)
    refine (ewho_c h fl k).go [(0, [])] (by simp (maxSteps := 1000000) [hF, hr, eH, h1, h2]) ?_;rintro av X κ ⟨rfl, rfl, rfl⟩;simp (maxSteps := 1000000) [hF, hr, eH, h1, h2]
    repeat first|refine n1 ?_|refine n2 ?_|((first|refine rg 3 [0, 1, 2] [0, 1, 2, 8] [] ?_|refine nc ?_);simp (maxSteps := 1000000) [hF])
    by_cases hz : stateOf h k [] = 0
    ·have hc : leafOf h k w = addOf h ⟨k, false, w, [], false⟩ := by simp [leafOf, h1, h2, hs, hz]
     refine (estate_cn h fl k hk).go [(0, [])] (by simp (maxSteps := 1000000) [hF, hz, eH]) ?_;rintro av X κ ⟨rfl, rfl, rfl⟩;simp (maxSteps := 1000000) [hF, hz, eH]
     repeat first|refine n1 ?_|refine n2 ?_|((first|refine rg 4 [0, 1, 2, 8] [0, 1, 2, 8, 25] [] ?_|refine rg 6 [0, 1, 2] [6, 7] [] ?_|refine nc ?_);simp (maxSteps := 1000000) [hF, hz])
     refine (eadd_n h fl hl k false w false).go [(0, [])] (by simp (maxSteps := 1000000) [hF, eH]) ?_;rintro av X κ ⟨rfl, rfl, rfl⟩;simp (maxSteps := 1000000) [hF, eH]
     refine VS.widen [(0, [.d])] (by simp [covers, mpre]) ?_
     (try refine nr ?_);(repeat first|refine nb_ ?_|refine nl_ ?_);refine endK.o [6, 7] [0] [(0, [.d])] ?_;simp [hF, retK, covers, mpre, eH, hc]
    ·have hc : leafOf h k w = (h, 0, stateOf h k []) := by simp [leafOf, h1, h2, hs, hz]
     refine (estate_cn h fl k hk).go [(0, [])] (by simp (maxSteps := 1000000) [hF, hz, eH]) ?_;rintro av X κ ⟨rfl, rfl, rfl⟩;simp (maxSteps := 1000000) [hF, hz, eH]
     repeat first|refine n1 ?_|((first|refine rg 4 [0, 1, 2, 8] [0, 1, 2, 8, 25] [] ?_|refine rg 5 [8] [6, 7] [] ?_|refine nc ?_);simp (maxSteps := 1000000) [hF, hz])
     refine VS.widen [(0, [.d])] (by simp [covers, mpre]) ?_
     (try refine nr ?_);(repeat first|refine nb_ ?_|refine nl_ ?_);refine endK.o [6, 7] [0] [(0, [.d])] ?_;simp [hF, retK, covers, mpre, eH, hc]
theorem elist_ok (h : Hs) (fl : Nat → Bool) (hl : h.things.length ≤ 400) (who : Int) (l : List Int) (ex : Bool) (hll : l.length ≤ 100000000) : Meets Try.prog 54 [eH h fl] (.cons (.ptr 0 [.d]) (.cons (avInt who) (.cons (.imm 1 (dInts l) ex) .nil)))
  fun av X κ => av = two (listOf h who l).2 ∧ X = [eH (listOf h who l).1 fl] ∧ κ = [(0, [.d])] := by
 refine fb Try.func54 Try.ntmps54 [.tmp 6, .tmp 7] fun w0 I0 F0 hF => ?_
 repeat first|refine n1 ?_|((first|refine rg 0 [0, 1, 2] [0, 1, 2] [] ?_|refine rg 1 [0, 1, 2] [0, 1, 2, 23] [(4, 13), (9, 18)] ?_);simp (maxSteps := 1000000) [hF])
 cases hr : isR h who with
 | false =>
  have hz : askOf h who l = 1 := by simp [askOf, hr]
  have hc : listOf h who l = (h, 0, 1) := by simp [listOf, hz]
  refine (ewho_c h fl who).go [(0, [])] (by simp (maxSteps := 1000000) [hF, hr, eH]) ?_;rintro av X κ ⟨rfl, rfl, rfl⟩;simp (maxSteps := 1000000) [hF, hr, eH]
  repeat first|refine n1 ?_|((first|refine rg 2 [] [6, 7] [] ?_|refine nc ?_);simp (maxSteps := 1000000) [hF])
  refine VS.widen [(0, [.d])] (by simp [covers, mpre]) ?_
  (try refine nr ?_);(repeat first|refine nb_ ?_|refine nl_ ?_);refine endK.o [6, 7] [0] [(0, [.d])] ?_;simp [hF, retK, covers, mpre, eH, hc]
 | true =>
  obtain ⟨k, rfl, hk⟩ := isR_nat hr
  by_cases h1 : 50 < l.length
  ·have hc : listOf h k l = (h, 0, 1) := by simp [listOf, h1]
   have h1i : (50 : Int) < l.length := by omega
   refine (ewho_c h fl k).go [(0, [])] (by simp (maxSteps := 1000000) [hF, hr, eH, h1i]) ?_;rintro av X κ ⟨rfl, rfl, rfl⟩;simp (maxSteps := 1000000) [hF, hr, eH, h1i]
   repeat first|refine n1 ?_|((first|refine rg 2 [] [6, 7] [] ?_|refine nc ?_);simp (maxSteps := 1000000) [hF])
   refine VS.widen [(0, [.d])] (by simp [covers, mpre]) ?_
   (try refine nr ?_);(repeat first|refine nb_ ?_|refine nl_ ?_);refine endK.o [6, 7] [0] [(0, [.d])] ?_;simp [hF, retK, covers, mpre, eH, hc]
  ·have h1i : ¬ (50 : Int) < l.length := by omega
   refine (ewho_c h fl k).go [(0, [])] (by simp (maxSteps := 1000000) [hF, hr, eH, h1i]) ?_;rintro av X κ ⟨rfl, rfl, rfl⟩;simp (maxSteps := 1000000) [hF, hr, eH, h1i]
   cases ht : l.all (isT h) with
   | false =>
    have hz : askOf h k l = 1 := by simp [askOf, ht]
    have hc : listOf h k l = (h, 0, 1) := by simp [listOf, hz]
    refine (ethings_c h fl ex l hll).go [(0, [])] (by simp (maxSteps := 1000000) [hF, ht, eH]) ?_;rintro av X κ ⟨rfl, rfl, rfl⟩;simp (maxSteps := 1000000) [hF, ht, eH]
    repeat first|refine n1 ?_|((first|refine rg 2 [] [6, 7] [] ?_|refine nc ?_);simp (maxSteps := 1000000) [hF])
    refine VS.widen [(0, [.d])] (by simp [covers, mpre]) ?_
    (try refine nr ?_);(repeat first|refine nb_ ?_|refine nl_ ?_);refine endK.o [6, 7] [0] [(0, [.d])] ?_;simp [hF, retK, covers, mpre, eH, hc]
   | true =>
    have hs := ask_state (l := l) hr ht
    refine (ethings_c h fl ex l hll).go [(0, [])] (by simp (maxSteps := 1000000) [hF, ht, eH]) ?_;rintro av X κ ⟨rfl, rfl, rfl⟩;simp (maxSteps := 1000000) [hF, ht, eH]
    repeat first|refine n1 ?_|refine n2 ?_|((first|refine rg 3 [0, 1, 2] [0, 1, 2, 8] [] ?_|refine nc ?_);simp (maxSteps := 1000000) [hF])
    by_cases hz : stateOf h k l = 0
    ·have hc : listOf h k l = addOf h ⟨k, true, 0, l, false⟩ := by simp [listOf, h1, hs, hz]
     refine (estate_c h fl k hk ex l hll (List.all_eq_true.1 ht)).go [(0, [])] (by simp (maxSteps := 1000000) [hF, hz, eH]) ?_;rintro av X κ ⟨rfl, rfl, rfl⟩;simp (maxSteps := 1000000) [hF, hz, eH]
     repeat first|refine n1 ?_|refine n2 ?_|refine ⟨⟨by omega, by omega⟩, ?_⟩|((first|refine rg 4 [0, 1, 2, 8] [0, 1, 2, 8, 29] [] ?_|refine rg 6 [0, 1, 2] [6, 7] [] ?_|refine nc ?_);simp (maxSteps := 1000000) [hF, hz])
     refine (eadd_l h fl hl k true 0 l false).go [(0, []), (1, [])] (by simp (maxSteps := 1000000) [hF, eH]) ?_;rintro av X κ ⟨rfl, rfl, rfl⟩;simp (maxSteps := 1000000) [hF, eH]
     refine VS.widen [(0, [.d])] (by simp [covers, mpre]) ?_
     (try refine nr ?_);(repeat first|refine nb_ ?_|refine nl_ ?_);refine endK.o [6, 7] [0] [(0, [.d])] ?_;simp [hF, retK, covers, mpre, eH, hc]
    ·have hc : listOf h k l = (h, 0, stateOf h k l) := by simp [listOf, h1, hs, hz]
     refine (estate_c h fl k hk ex l hll (List.all_eq_true.1 ht)).go [(0, [])] (by simp (maxSteps := 1000000) [hF, hz, eH]) ?_;rintro av X κ ⟨rfl, rfl, rfl⟩;simp (maxSteps := 1000000) [hF, hz, eH]
     repeat first|refine n1 ?_|((first|refine rg 4 [0, 1, 2, 8] [0, 1, 2, 8, 29] [] ?_|refine rg 5 [8] [6, 7] [] ?_|refine nc ?_);simp (maxSteps := 1000000) [hF, hz])
     refine VS.widen [(0, [.d])] (by simp [covers, mpre]) ?_
     (try refine nr ?_);(repeat first|refine nb_ ?_|refine nl_ ?_);refine endK.o [6, 7] [0] [(0, [.d])] ?_;simp [hF, retK, covers, mpre, eH, hc]
def frozeE (L : List Tg) (x : Int) : Bool := (gd L x).frozen || !notSh L x
def setE (h : Hs) (who x i z : Int) : Hs × Int :=
 if ¬ indexOf h x i = 0 then (h, 1) else if ¬ askOf h who [x, z] = 0 then (h, askOf h who [x, z]) else if frozeE h.things x = true then (h, 13)
 else (setTg h x { gd h.things x with items := (gd h.things x).items.set i.toNat z }, 0)
def pushE (h : Hs) (who x z : Int) : Hs × Int :=
 if isT h x = true ∧ (gd h.things x).list = false then (h, 1) else if ¬ askOf h who [x, z] = 0 then (h, askOf h who [x, z]) else if frozeE h.things x = true then (h, 13)
 else if 50 ≤ (gd h.things x).items.length then (h, 9) else (setTg h x { gd h.things x with items := (gd h.things x).items ++ [z] }, 0)
def freezeE (h : Hs) (who x : Int) : Hs × Int :=
 if askOf h who [x] = 0 then (setTg h x { gd h.things x with frozen := (gd h.things x).list }, 0) else (h, askOf h who [x])
theorem eown_r (ex : Bool) (l : List Int) (hl : l.length ≤ 100000000) : Meets Try.prog 73 [.sl true () 1 (dInts l)] (.cons (.sub 0 [] 0 l.length ex) .nil)
  fun av X κ => av = .sub 1 [] 0 l.length false ∧ X = [.sl true () 1 (dInts l), .sl true () 1 (dInts l)] ∧ κ = [] := by
 have hm : (dInts l).mid 0 l.length = dInts l := by simp
 have e : (AV.cons (.sub 0 [] 0 l.length ex) .nil).chilled (.sl true () 1 (dInts l)) = .cons (.imm 1 (dInts l) ex) .nil := by
  simp only [AV.chilled, hm, freeze_ints]
 refine Meets.mono (Meets.warm (Y := []) (by rw [e]; exact eown_ok ex l hl) ?_) ?_
 ·rintro av X κ ⟨rfl, rfl, rfl⟩
  exact ⟨rfl, by simp [T.allOwn], rfl⟩
 ·rintro av X κ ⟨av0, X0, ⟨rfl, rfl, _⟩, rfl, rfl, rfl⟩
  exact ⟨rfl, rfl, rfl⟩
theorem eset_ok (h : Hs) (fl : Nat → Bool) (hok : Hok h) (who x i z : Int) : Meets Try.prog 55 [eH h fl] (.cons (.ptr 0 [.d]) (.cons (avInt who) (.cons (avInt x) (.cons (avInt i) (.cons (avInt z) .nil)))))
  fun av X κ => av = avInt (setE h who x i z).2 ∧ X = [eH (setE h who x i z).1 fl] ∧ κ = [(0, [.d])] := by
 refine fb Try.func55 Try.ntmps55 [.tmp 10] fun w0 I0 F0 hF => ?_
 repeat first|refine n1 ?_|((first|refine rg 0 [0, 1, 2, 3, 4] [0, 1, 2, 3, 4] [] ?_|refine rg 1 [0, 1, 2, 3, 4] [0, 1, 2, 3, 4, 28] [(4, 16), (11, 23)] ?_);simp (maxSteps := 1000000) [hF])
 cases hr : isR h who with
 | false =>
  have hc : setE h who x i z = (h, 1) := by
   have : askOf h who [x, z] = 1 := by simp [askOf, hr]
   simp [setE, this]
  refine (ewho_c h fl who).go [(0, [])] (by simp (maxSteps := 1000000) [hF, hr, eH]) ?_;rintro av X κ ⟨rfl, rfl, rfl⟩;simp (maxSteps := 1000000) [hF, hr, eH]
  repeat first|refine n1 ?_|((first|refine rg 2 [] [10] [] ?_|refine nc ?_);simp (maxSteps := 1000000) [hF])
  refine VS.widen [(0, [.d])] (by simp [covers, mpre]) ?_
  (try refine nr ?_);(repeat first|refine nb_ ?_|refine nl_ ?_);refine endK.o [10] [0] [(0, [.d])] ?_;simp [hF, retK, covers, mpre, eH, hc]
 | true =>
  obtain ⟨w, rfl, hwl⟩ := isR_nat hr
  refine (ewho_c h fl w).go [(0, [])] (by simp (maxSteps := 1000000) [hF, hr, eH]) ?_;rintro av X κ ⟨rfl, rfl, rfl⟩;simp (maxSteps := 1000000) [hF, hr, eH]
  cases hi : itemB h x i with
  | false =>
   have hc : setE h w x i z = (h, 1) := by
    cases ht : isT h x with
    | false =>
     have : askOf h w [x, z] = 1 := by simp [askOf, ht]
     simp [setE, this]
    | true => simp [setE, item_index ht hi]
   refine (eitem_c h fl x i).go [(0, [])] (by simp (maxSteps := 1000000) [hF, hi, eH]) ?_;rintro av X κ ⟨rfl, rfl, rfl⟩;simp (maxSteps := 1000000) [hF, hi, eH]
   repeat first|refine n1 ?_|((first|refine rg 2 [] [10] [] ?_|refine nc ?_);simp (maxSteps := 1000000) [hF])
   refine VS.widen [(0, [.d])] (by simp [covers, mpre]) ?_
   (try refine nr ?_);(repeat first|refine nb_ ?_|refine nl_ ?_);refine endK.o [10] [0] [(0, [.d])] ?_;simp [hF, retK, covers, mpre, eH, hc]
  | true =>
   obtain ⟨k, j, rfl, rfl, hk, hj, hl, hx⟩ := item_at hi
   have ht : isT h (k : Int) = true := by simp [isT, hk]
   refine (eitem_c h fl k j).go [(0, [])] (by simp (maxSteps := 1000000) [hF, hi, eH]) ?_;rintro av X κ ⟨rfl, rfl, rfl⟩;simp (maxSteps := 1000000) [hF, hi, eH]
   cases hz : isT h z with
   | false =>
    have hc : setE h w k j z = (h, 1) := by
     have : askOf h w [(k : Int), z] = 1 := by simp [askOf, hz]
     simp [setE, this]
    refine (ething_c h fl z).go [(0, [])] (by simp (maxSteps := 1000000) [hF, hz, eH]) ?_;rintro av X κ ⟨rfl, rfl, rfl⟩;simp (maxSteps := 1000000) [hF, hz, eH]
    repeat first|refine n1 ?_|((first|refine rg 2 [] [10] [] ?_|refine nc ?_);simp (maxSteps := 1000000) [hF])
    refine VS.widen [(0, [.d])] (by simp [covers, mpre]) ?_
    (try refine nr ?_);(repeat first|refine nb_ ?_|refine nl_ ?_);refine endK.o [10] [0] [(0, [.d])] ?_;simp [hF, retK, covers, mpre, eH, hc]
   | true =>
    have hs := ask_state (l := [(k : Int), z]) hr (by simp [ht, hz])
    refine (ething_c h fl z).go [(0, [])] (by simp (maxSteps := 1000000) [hF, hz, eH]) ?_;rintro av X κ ⟨rfl, rfl, rfl⟩;simp (maxSteps := 1000000) [hF, hz, eH]
    repeat first|refine n1 ?_|refine n2 ?_|((first|refine rg 3 [0, 1, 2, 3, 4] [0, 2, 3, 4, 11] [] ?_|refine nc ?_);simp (maxSteps := 1000000) [hF])
    by_cases hst : stateOf h w [(k : Int), z] = 0
    ·refine (estate_c2 h fl w hwl true k z ht hz).go [(0, []), (1, [])] (by simp (maxSteps := 1000000) [hF, hst, eH]) ?_;rintro av X κ ⟨rfl, rfl, rfl⟩;simp (maxSteps := 1000000) [hF, hst, eH]
     repeat first|refine n1 ?_|refine n2 ?_|((first|refine rg 4 [0, 2, 3, 4, 11] [0, 2, 3, 4, 11, 36] [] ?_|refine rg 6 [0, 2, 3, 4] [0, 2, 3, 4, 40] [] ?_|refine nc ?_);simp (maxSteps := 1000000) [hF, hst])
     cases hf : (h.things[k].frozen || !notSh h.things k) with
     | true =>
      have hc : setE h w k j z = (h, 13) := by simp only [setE, hx, hs, hst, frozeE, gd_at hk, hf]; simp
      refine (efrozen_c h fl k hk).go [(0, [])] (by simp (maxSteps := 1000000) [hF, hf, eH]) ?_;rintro av X κ ⟨rfl, rfl, rfl⟩;simp (maxSteps := 1000000) [hF, hf, eH]
      repeat first|refine n1 ?_|((first|refine rg 7 [] [10] [] ?_|refine nc ?_);simp (maxSteps := 1000000) [hF, hf])
      refine VS.widen [(0, [.d])] (by simp [covers, mpre]) ?_
      (try refine nr ?_);(repeat first|refine nb_ ?_|refine nl_ ?_);refine endK.o [10] [0] [(0, [.d])] ?_;simp [hF, retK, covers, mpre, eH, hc]
     | false =>
      have hc : setE h w k j z = ({ h with things := h.things.set k (⟨h.things[k].owner, h.things[k].list, h.things[k].word, h.things[k].items.set j z, h.things[k].frozen⟩ : Tg) }, 0) := by simp only [setE, hx, hs, hst, frozeE, gd_at hk, hf, setTg]; simp
      have hn := eTgs_nth (o := true) hk
      have hil := hok.few _ (List.getElem_mem hk)
      have hmn := dInts_nth hj
      have hsame := setN_of hn
      have hs1 := dInts_set h.things[k].items j z
      have hs2 := eTgs_set true h.things k h.things[k].owner h.things[k].list h.things[k].word (h.things[k].items.set j z) h.things[k].frozen
      have hm1 : (dInts h.things[k].items).mid 0 h.things[k].items.length = dInts h.things[k].items := by simp
      refine (efrozen_c h fl k hk).go [(0, [])] (by simp (maxSteps := 1000000) [hF, hf, eH]) ?_;rintro av X κ ⟨rfl, rfl, rfl⟩;simp (maxSteps := 1000000) [hF, hf, eH]
      repeat first|refine n1 ?_|refine n2 ?_|((first|(refine dr 8 0 [0, 2, 3, 4] [0, 2, 3, 4] [] [⟨0, 1, 2199023255552, 5⟩, ⟨1, 2199023255552, 4398046511104, 5⟩, ⟨2, 4398046511104, 8796093022208, 5⟩, ⟨4, 8796093022208, 17592186044416, 6⟩, ⟨0, 4, 35184372088832, 5⟩, ⟨0, 1, 70368744177664, 5⟩, ⟨32, 70368744177664, 140737488355328, 5⟩, ⟨64, 140737488355328, 281474976710656, 5⟩, ⟨128, 281474976710656, 562949953421312, 6⟩, ⟨0, 4, 1125899906842624, 5⟩, ⟨768, 1688849860263936, 2251799813685248, 5⟩, ⟨1024, 2251799813685248, 4503599627370496, 5⟩, ⟨2048, 4503599627370496, 9007199254740992, 6⟩, ⟨4096, 9007199254740992, 18014398509481984, 0⟩, ⟨16383, 52776558133248, 36028797018963968, 5⟩, ⟨32767, 36028797018963968, 72057594037927936, 5⟩, ⟨49151, 90071992547409920, 0, 0⟩] (.take 0 (.take 1 (.take 2 (.take 4 (.take 5 (.take 6 (.take 7 (.take 8 (.take 9 (.take 10 (.take 11 (.take 12 (.fork (.alt 3 (.fork (.alt 13 (.take 14 (.take 15 (.fork (.alt 16 (.done) (.nil))))) (.nil))) (.alt 13 (.take 3 (.take 14 (.take 15 (.fork (.alt 16 (.done) (.nil)))))) (.nil)))))))))))))))) (.run [0, 1, 2, 4, 5, 6, 7, 8, 9, 10, 11, 12] (.both (.run [3, 13, 14, 15, 16] (.done)) (.run [13, 3, 14, 15, 16] (.done)))) ?_;simp only [drs])|refine nc ?_);simp (maxSteps := 1000000) [hF, hf, eH, hn, hk])
      refine ⟨?_, ?_⟩
      ·refine (eown_r false h.things[k].items (by omega)).go [(0, [.d, .f 2, .i k, .f 4])] (by simp (maxSteps := 1000000) [hF, hn, hk, hsame, hm1]) ?_;rintro av X κ ⟨rfl, rfl, rfl⟩;simp (maxSteps := 1000000) [hF, hn, hk, hsame, hm1]
       repeat first|refine n1 ?_|((first|refine rg 9 [0, 2, 3, 4] [] [] ?_|refine rg 10 [] [10] [] ?_);simp (maxSteps := 1000000) [hF, hn, hk, hsame, hm1, hj, hmn, hs1, hs2])
       refine VS.widen [(0, [.d])] (by simp [covers, mpre]) ?_
       (try refine nr ?_);(repeat first|refine nb_ ?_|refine nl_ ?_);refine endK.o [10] [0] [(0, [.d])] ?_;simp [hF, retK, covers, mpre, eH, hc]
      ·refine (eown_r false h.things[k].items (by omega)).go [(0, [.d, .f 2, .i k, .f 4])] (by simp (maxSteps := 1000000) [hF, hn, hk, hsame, hm1]) ?_;rintro av X κ ⟨rfl, rfl, rfl⟩;simp (maxSteps := 1000000) [hF, hn, hk, hsame, hm1]
       repeat first|refine n1 ?_|((first|refine rg 9 [0, 2, 3, 4] [] [] ?_|refine rg 10 [] [10] [] ?_);simp (maxSteps := 1000000) [hF, hn, hk, hsame, hm1, hj, hmn, hs1, hs2])
       refine VS.widen [(0, [.d])] (by simp [covers, mpre]) ?_
       (try refine nr ?_);(repeat first|refine nb_ ?_|refine nl_ ?_);refine endK.o [10] [0] [(0, [.d])] ?_;simp [hF, retK, covers, mpre, eH, hc]
    ·have hc : setE h w k j z = (h, stateOf h w [(k : Int), z]) := by simp [setE, hx, hs, hst]
     refine (estate_c2 h fl w hwl true k z ht hz).go [(0, []), (1, [])] (by simp (maxSteps := 1000000) [hF, hst, eH]) ?_;rintro av X κ ⟨rfl, rfl, rfl⟩;simp (maxSteps := 1000000) [hF, hst, eH]
     repeat first|refine n1 ?_|((first|refine rg 4 [0, 2, 3, 4, 11] [0, 2, 3, 4, 11, 36] [] ?_|refine rg 5 [11] [10] [] ?_|refine nc ?_);simp (maxSteps := 1000000) [hF, hst])
     refine VS.widen [(0, [.d])] (by simp [covers, mpre]) ?_
     (try refine nr ?_);(repeat first|refine nb_ ?_|refine nl_ ?_);refine endK.o [10] [0] [(0, [.d])] ?_;simp [hF, retK, covers, mpre, eH, hc]
theorem efreeze_ok (h : Hs) (fl : Nat → Bool) (hok : Hok h) (who x : Int) : Meets Try.prog 57 [eH h fl] (.cons (.ptr 0 [.d]) (.cons (avInt who) (.cons (avInt x) .nil)))
  fun av X κ => av = avInt (freezeE h who x).2 ∧ X = [eH (freezeE h who x).1 fl] ∧ κ = [(0, [.d])] := by
 refine fb Try.func57 Try.ntmps57 [.tmp 6] fun w0 I0 F0 hF => ?_
 repeat first|refine n1 ?_|((first|refine rg 0 [0, 1, 2] [0, 1, 2] [] ?_|refine rg 1 [0, 1, 2] [0, 1, 2, 17] [(4, 12)] ?_);simp (maxSteps := 1000000) [hF])
 cases hr : isR h who with
 | false =>
  have hc : freezeE h who x = (h, 1) := by
   have : askOf h who [x] = 1 := by simp [askOf, hr]
   simp [freezeE, this]
  refine (ewho_c h fl who).go [(0, [])] (by simp (maxSteps := 1000000) [hF, hr, eH]) ?_;rintro av X κ ⟨rfl, rfl, rfl⟩;simp (maxSteps := 1000000) [hF, hr, eH]
  repeat first|refine n1 ?_|((first|refine rg 2 [] [6] [] ?_|refine nc ?_);simp (maxSteps := 1000000) [hF])
  refine VS.widen [(0, [.d])] (by simp [covers, mpre]) ?_
  (try refine nr ?_);(repeat first|refine nb_ ?_|refine nl_ ?_);refine endK.o [6] [0] [(0, [.d])] ?_;simp [hF, retK, covers, mpre, eH, hc]
 | true =>
  obtain ⟨w, rfl, hwl⟩ := isR_nat hr
  refine (ewho_c h fl w).go [(0, [])] (by simp (maxSteps := 1000000) [hF, hr, eH]) ?_;rintro av X κ ⟨rfl, rfl, rfl⟩;simp (maxSteps := 1000000) [hF, hr, eH]
  cases ht : isT h x with
  | false =>
   have hc : freezeE h w x = (h, 1) := by
    have : askOf h w [x] = 1 := by simp [askOf, ht]
    simp [freezeE, this]
   refine (ething_c h fl x).go [(0, [])] (by simp (maxSteps := 1000000) [hF, ht, eH]) ?_;rintro av X κ ⟨rfl, rfl, rfl⟩;simp (maxSteps := 1000000) [hF, ht, eH]
   repeat first|refine n1 ?_|((first|refine rg 2 [] [6] [] ?_|refine nc ?_);simp (maxSteps := 1000000) [hF])
   refine VS.widen [(0, [.d])] (by simp [covers, mpre]) ?_
   (try refine nr ?_);(repeat first|refine nb_ ?_|refine nl_ ?_);refine endK.o [6] [0] [(0, [.d])] ?_;simp [hF, retK, covers, mpre, eH, hc]
  | true =>
   obtain ⟨k, rfl, hk⟩ := isT_nat ht
   have hs := ask_state (l := [(k : Int)]) hr (by simp [ht])
   refine (ething_c h fl k).go [(0, [])] (by simp (maxSteps := 1000000) [hF, ht, eH]) ?_;rintro av X κ ⟨rfl, rfl, rfl⟩;simp (maxSteps := 1000000) [hF, ht, eH]
   repeat first|refine n1 ?_|refine n2 ?_|((first|refine rg 3 [0, 1, 2] [0, 2, 7] [] ?_|refine nc ?_);simp (maxSteps := 1000000) [hF])
   by_cases hst : stateOf h w [(k : Int)] = 0
   ·have hc : freezeE h w k = ({ h with things := h.things.set k (⟨h.things[k].owner, h.things[k].list, h.things[k].word, h.things[k].items, h.things[k].list⟩ : Tg) }, 0) := by simp only [freezeE, hs, hst, gd_at hk, setTg]; simp
    have hn := eTgs_nth (o := true) hk
    have hs2 := eTgs_set true h.things k h.things[k].owner h.things[k].list h.things[k].word h.things[k].items h.things[k].list
    refine (estate_c1 h fl w hwl true k ht).go [(0, []), (1, [])] (by simp (maxSteps := 1000000) [hF, hst, eH]) ?_;rintro av X κ ⟨rfl, rfl, rfl⟩;simp (maxSteps := 1000000) [hF, hst, eH]
    repeat first|refine n1 ?_|refine n2 ?_|((first|refine rg 4 [0, 2, 7] [0, 2, 7, 24] [] ?_|(refine dr 6 0 [0, 2] [] [] [⟨0, 1, 67108864, 5⟩, ⟨1, 67108864, 134217728, 5⟩, ⟨2, 134217728, 268435456, 5⟩, ⟨4, 268435456, 536870912, 6⟩, ⟨0, 4, 1073741824, 5⟩, ⟨0, 1, 2147483648, 5⟩, ⟨32, 2147483648, 4294967296, 5⟩, ⟨64, 4294967296, 8589934592, 5⟩, ⟨128, 8589934592, 17179869184, 6⟩, ⟨0, 4, 34359738368, 5⟩, ⟨768, 51539607552, 68719476736, 5⟩, ⟨1024, 68719476736, 137438953472, 5⟩, ⟨2048, 137438953472, 274877906944, 6⟩, ⟨8191, 1610612736, 549755813888, 5⟩, ⟨16383, 549755813888, 1099511627776, 5⟩, ⟨24575, 1374389534720, 0, 0⟩] (.take 0 (.take 1 (.take 2 (.take 3 (.take 4 (.take 5 (.take 6 (.take 7 (.take 8 (.take 9 (.take 10 (.take 11 (.take 12 (.take 13 (.take 14 (.fork (.alt 15 (.done) (.nil)))))))))))))))))) (.run [0, 1, 2, 3, 4, 5, 6, 7, 8, 9, 10, 11, 12, 13, 14, 15] (.done)) ?_;simp only [drs])|refine rg 7 [] [6] [] ?_|refine nc ?_);simp (maxSteps := 1000000) [hF, hst, hn, hk, hs2])
    refine VS.widen [(0, [.d])] (by simp [covers, mpre]) ?_
    (try refine nr ?_);(repeat first|refine nb_ ?_|refine nl_ ?_);refine endK.o [6] [0] [(0, [.d])] ?_;simp [hF, retK, covers, mpre, eH, hc]
   ·have hc : freezeE h w k = (h, stateOf h w [(k : Int)]) := by simp [freezeE, hs, hst]
    refine (estate_c1 h fl w hwl true k ht).go [(0, []), (1, [])] (by simp (maxSteps := 1000000) [hF, hst, eH]) ?_;rintro av X κ ⟨rfl, rfl, rfl⟩;simp (maxSteps := 1000000) [hF, hst, eH]
    repeat first|refine n1 ?_|((first|refine rg 4 [0, 2, 7] [0, 2, 7, 24] [] ?_|refine rg 5 [7] [6] [] ?_|refine nc ?_);simp (maxSteps := 1000000) [hF, hst])
    refine VS.widen [(0, [.d])] (by simp [covers, mpre]) ?_
    (try refine nr ?_);(repeat first|refine nb_ ?_|refine nl_ ?_);refine endK.o [6] [0] [(0, [.d])] ?_;simp [hF, retK, covers, mpre, eH, hc]
theorem epush_ok (h : Hs) (fl : Nat → Bool) (hok : Hok h) (who x z : Int) : Meets Try.prog 56 [eH h fl] (.cons (.ptr 0 [.d]) (.cons (avInt who) (.cons (avInt x) (.cons (avInt z) .nil))))
  fun av X κ => av = avInt (pushE h who x z).2 ∧ X = [eH (pushE h who x z).1 fl] ∧ κ = [(0, [.d])] := by
 refine fb Try.func56 Try.ntmps56 [.tmp 8] fun w0 I0 F0 hF => ?_
 repeat first|refine n1 ?_|((first|refine rg 0 [0, 1, 2, 3] [0, 1, 2, 3] [] ?_|refine rg 1 [0, 1, 2, 3] [0, 1, 2, 3, 36] [(4, 14), (10, 20), (21, 31)] ?_);simp (maxSteps := 1000000) [hF])
 cases hr : isR h who with
 | false =>
  have hc : pushE h who x z = (h, 1) := by
   have : askOf h who [x, z] = 1 := by simp [askOf, hr]
   simp [pushE, this]
  refine (ewho_c h fl who).go [(0, [])] (by simp (maxSteps := 1000000) [hF, hr, eH]) ?_;rintro av X κ ⟨rfl, rfl, rfl⟩;simp (maxSteps := 1000000) [hF, hr, eH]
  repeat first|refine n1 ?_|((first|refine rg 2 [] [8] [] ?_|refine nc ?_);simp (maxSteps := 1000000) [hF])
  refine VS.widen [(0, [.d])] (by simp [covers, mpre]) ?_
  (try refine nr ?_);(repeat first|refine nb_ ?_|refine nl_ ?_);refine endK.o [8] [0] [(0, [.d])] ?_;simp [hF, retK, covers, mpre, eH, hc]
 | true =>
  obtain ⟨w, rfl, hwl⟩ := isR_nat hr
  refine (ewho_c h fl w).go [(0, [])] (by simp (maxSteps := 1000000) [hF, hr, eH]) ?_;rintro av X κ ⟨rfl, rfl, rfl⟩;simp (maxSteps := 1000000) [hF, hr, eH]
  cases ht : isT h x with
  | false =>
   have hc : pushE h w x z = (h, 1) := by
    have : askOf h w [x, z] = 1 := by simp [askOf, ht]
    simp [pushE, this]
   refine (ething_c h fl x).go [(0, [])] (by simp (maxSteps := 1000000) [hF, ht, eH]) ?_;rintro av X κ ⟨rfl, rfl, rfl⟩;simp (maxSteps := 1000000) [hF, ht, eH]
   repeat first|refine n1 ?_|((first|refine rg 2 [] [8] [] ?_|refine nc ?_);simp (maxSteps := 1000000) [hF])
   refine VS.widen [(0, [.d])] (by simp [covers, mpre]) ?_
   (try refine nr ?_);(repeat first|refine nb_ ?_|refine nl_ ?_);refine endK.o [8] [0] [(0, [.d])] ?_;simp [hF, retK, covers, mpre, eH, hc]
  | true =>
   obtain ⟨k, rfl, hk⟩ := isT_nat ht
   have hn := eTgs_nth (o := true) hk
   cases hl : h.things[k].list with
   | false =>
    rw [hl] at hn
    have hc : pushE h w k z = (h, 1) := by simp [pushE, ht, hk, hl]
    refine (ething_c h fl k).go [(0, [])] (by simp (maxSteps := 1000000) [hF, ht, eH, hn, hk]) ?_;rintro av X κ ⟨rfl, rfl, rfl⟩;simp (maxSteps := 1000000) [hF, ht, eH, hn, hk]
    repeat first|refine n1 ?_|((first|refine rg 2 [] [8] [] ?_|refine nc ?_);simp (maxSteps := 1000000) [hF])
    refine VS.widen [(0, [.d])] (by simp [covers, mpre]) ?_
    (try refine nr ?_);(repeat first|refine nb_ ?_|refine nl_ ?_);refine endK.o [8] [0] [(0, [.d])] ?_;simp [hF, retK, covers, mpre, eH, hc]
   | true =>
    rw [hl] at hn
    refine (ething_c h fl k).go [(0, [])] (by simp (maxSteps := 1000000) [hF, ht, eH, hn, hk]) ?_;rintro av X κ ⟨rfl, rfl, rfl⟩;simp (maxSteps := 1000000) [hF, ht, eH, hn, hk]
    cases hz : isT h z with
    | false =>
     have hc : pushE h w k z = (h, 1) := by
      have : askOf h w [(k : Int), z] = 1 := by simp [askOf, hz]
      simp [pushE, this]
     refine (ething_c h fl z).go [(0, [])] (by simp (maxSteps := 1000000) [hF, hz, eH]) ?_;rintro av X κ ⟨rfl, rfl, rfl⟩;simp (maxSteps := 1000000) [hF, hz, eH]
     repeat first|refine n1 ?_|((first|refine rg 2 [] [8] [] ?_|refine nc ?_);simp (maxSteps := 1000000) [hF])
     refine VS.widen [(0, [.d])] (by simp [covers, mpre]) ?_
     (try refine nr ?_);(repeat first|refine nb_ ?_|refine nl_ ?_);refine endK.o [8] [0] [(0, [.d])] ?_;simp [hF, retK, covers, mpre, eH, hc]
    | true =>
     have hs := ask_state (l := [(k : Int), z]) hr (by simp [ht, hz])
     refine (ething_c h fl z).go [(0, [])] (by simp (maxSteps := 1000000) [hF, hz, eH]) ?_;rintro av X κ ⟨rfl, rfl, rfl⟩;simp (maxSteps := 1000000) [hF, hz, eH]
     repeat first|refine n1 ?_|refine n2 ?_|((first|refine rg 3 [0, 1, 2, 3] [0, 2, 3, 9] [] ?_|refine nc ?_);simp (maxSteps := 1000000) [hF])
     by_cases hst : stateOf h w [(k : Int), z] = 0
     ·refine (estate_c2 h fl w hwl true k z ht hz).go [(0, []), (1, [])] (by simp (maxSteps := 1000000) [hF, hst, eH]) ?_;rintro av X κ ⟨rfl, rfl, rfl⟩;simp (maxSteps := 1000000) [hF, hst, eH]
      repeat first|refine n1 ?_|refine n2 ?_|((first|refine rg 4 [0, 2, 3, 9] [0, 2, 3, 9, 44] [] ?_|refine rg 6 [0, 2, 3] [0, 2, 3, 48] [] ?_|refine nc ?_);simp (maxSteps := 1000000) [hF, hst])
      cases hf : (h.things[k].frozen || !notSh h.things k) with
      | true =>
       have hc : pushE h w k z = (h, 13) := by simp only [pushE, hs, hst, frozeE, gd_at hk, hf, hl]; simp
       refine (efrozen_c h fl k hk).go [(0, [])] (by simp (maxSteps := 1000000) [hF, hf, eH]) ?_;rintro av X κ ⟨rfl, rfl, rfl⟩;simp (maxSteps := 1000000) [hF, hf, eH]
       repeat first|refine n1 ?_|((first|refine rg 7 [] [8] [] ?_|refine nc ?_);simp (maxSteps := 1000000) [hF, hf])
       refine VS.widen [(0, [.d])] (by simp [covers, mpre]) ?_
       (try refine nr ?_);(repeat first|refine nb_ ?_|refine nl_ ?_);refine endK.o [8] [0] [(0, [.d])] ?_;simp [hF, retK, covers, mpre, eH, hc]
      | false =>
       refine (efrozen_c h fl k hk).go [(0, [])] (by simp (maxSteps := 1000000) [hF, hf, eH]) ?_;rintro av X κ ⟨rfl, rfl, rfl⟩;simp (maxSteps := 1000000) [hF, hf, eH]
       by_cases h5 : 50 ≤ h.things[k].items.length
       ·have h5i : (50 : Int) ≤ h.things[k].items.length := by omega
        have hc : pushE h w k z = (h, 9) := by simp only [pushE, hs, hst, frozeE, gd_at hk, hf, hl]; simp [h5]
        repeat first|refine n1 ?_|refine n2 ?_|((first|refine rg 8 [0, 2, 3] [0, 2, 3, 58] [] ?_|refine rg 9 [] [8] [] ?_|refine nc ?_);simp (maxSteps := 1000000) [hF, hf, eH, hn, hk, h5i])
        refine VS.widen [(0, [.d])] (by simp [covers, mpre]) ?_
        (try refine nr ?_);(repeat first|refine nb_ ?_|refine nl_ ?_);refine endK.o [8] [0] [(0, [.d])] ?_;simp [hF, retK, covers, mpre, eH, hc]
       ·have h5i : ¬ (50 : Int) ≤ h.things[k].items.length := by omega
        have hc : pushE h w k z = ({ h with things := h.things.set k (⟨h.things[k].owner, true, h.things[k].word, h.things[k].items ++ [z], h.things[k].frozen⟩ : Tg) }, 0) := by simp only [pushE, hs, hst, frozeE, gd_at hk, hf, setTg, hl]; simp [h5]
        have hsame := setN_of hn
        have hs2 := eTgs_set true h.things k h.things[k].owner true h.things[k].word (h.things[k].items ++ [z]) h.things[k].frozen
        have hm1 : (dInts h.things[k].items).mid 0 h.things[k].items.length = dInts h.things[k].items := by simp
        have hp := dInts_app1 h.things[k].items z
        have hm : (dInts (h.things[k].items ++ [z])).mid 0 (h.things[k].items.length + 1) = dInts (h.things[k].items ++ [z]) := sq_mid_all _ _ (by simp)
        have c1 : (h.things[k].items.length + 1) * 8 ≤ 140737488355328 := by omega
        have c2 : h.things[k].items.length ≤ 9223372036854775806 := by omega
        repeat first|refine n1 ?_|refine n2 ?_|((first|refine rg 8 [0, 2, 3] [0, 2, 3, 58] [] ?_|(refine dr 10 0 [0, 2, 3] [] [] [⟨0, 1, 576460752303423488, 5⟩, ⟨1, 576460752303423488, 1152921504606846976, 5⟩, ⟨2, 1152921504606846976, 2305843009213693952, 5⟩, ⟨4, 2305843009213693952, 4611686018427387904, 6⟩, ⟨0, 4, 9223372036854775808, 5⟩, ⟨0, 1, 18446744073709551616, 5⟩, ⟨32, 18446744073709551616, 36893488147419103232, 5⟩, ⟨64, 36893488147419103232, 73786976294838206464, 5⟩, ⟨128, 73786976294838206464, 147573952589676412928, 6⟩, ⟨0, 4, 295147905179352825856, 5⟩, ⟨768, 442721857769029238784, 590295810358705651712, 5⟩, ⟨1024, 590295810358705651712, 1180591620717411303424, 5⟩, ⟨2048, 1180591620717411303424, 2361183241434822606848, 6⟩, ⟨4096, 2361183241434822606848, 4722366482869645213696, 0⟩, ⟨0, 8, 9444732965739290427392, 5⟩, ⟨16384, 9444732965739290427392, 18889465931478580854784, 4⟩, ⟨40960, 23611832414348226068480, 37778931862957161709568, 0⟩, ⟨131071, 13835058055282163712, 75557863725914323419136, 5⟩, ⟨262143, 75557863725914323419136, 151115727451828646838272, 5⟩, ⟨393215, 188894659314785808547840, 0, 0⟩] (.take 0 (.take 1 (.take 2 (.take 4 (.take 5 (.take 6 (.take 7 (.take 8 (.take 9 (.take 10 (.take 11 (.take 12 (.take 14 (.fork (.alt 3 (.fork (.alt 13 (.fork (.alt 15 (.fork (.alt 16 (.take 17 (.take 18 (.fork (.alt 19 (.done) (.nil))))) (.nil))) (.nil))) (.alt 15 (.fork (.alt 13 (.fork (.alt 16 (.take 17 (.take 18 (.fork (.alt 19 (.done) (.nil))))) (.nil))) (.nil))) (.nil)))) (.alt 13 (.fork (.alt 3 (.fork (.alt 15 (.fork (.alt 16 (.take 17 (.take 18 (.fork (.alt 19 (.done) (.nil))))) (.nil))) (.nil))) (.alt 15 (.fork (.alt 3 (.fork (.alt 16 (.take 17 (.take 18 (.fork (.alt 19 (.done) (.nil))))) (.nil))) (.alt 16 (.take 3 (.take 17 (.take 18 (.fork (.alt 19 (.done) (.nil)))))) (.nil)))) (.nil)))) (.alt 15 (.fork (.alt 3 (.fork (.alt 13 (.fork (.alt 16 (.take 17 (.take 18 (.fork (.alt 19 (.done) (.nil))))) (.nil))) (.nil))) (.alt 13 (.fork (.alt 3 (.fork (.alt 16 (.take 17 (.take 18 (.fork (.alt 19 (.done) (.nil))))) (.nil))) (.alt 16 (.take 3 (.take 17 (.take 18 (.fork (.alt 19 (.done) (.nil)))))) (.nil)))) (.nil)))) (.nil)))))))))))))))))) (.run [0, 1, 2, 4, 5, 6, 7, 8, 9, 10, 11, 12, 14] (.both (.run [3] (.both (.run [13, 15, 16, 17, 18, 19] (.done)) (.run [15, 13, 16, 17, 18, 19] (.done)))) (.both (.run [13] (.both (.run [3, 15, 16, 17, 18, 19] (.done)) (.run [15] (.both (.run [3, 16, 17, 18, 19] (.done)) (.run [16, 3, 17, 18, 19] (.done)))))) (.run [15] (.both (.run [3, 13, 16, 17, 18, 19] (.done)) (.run [13] (.both (.run [3, 16, 17, 18, 19] (.done)) (.run [16, 3, 17, 18, 19] (.done))))))))) ?_;simp only [drs])|refine nc ?_);simp (maxSteps := 1000000) [hF, hf, eH, hn, hk, h5i])
        repeat' refine And.intro ?_ ?_
        ·refine (eown_r false h.things[k].items (by omega)).go [(0, [.d, .f 2, .i k, .f 4])] (by simp (maxSteps := 1000000) [hF, hn, hk, hsame, hm1, hp, hm, c1, c2, hs2]) ?_;rintro av X κ ⟨rfl, rfl, rfl⟩;simp (maxSteps := 1000000) [hF, hn, hk, hsame, hm1, hp, hm, c1, c2, hs2]
         repeat first|refine n1 ?_|(refine rg 11 [] [8] [] ?_;simp (maxSteps := 1000000) [hF, hn, hk, hsame, hm1, hp, hm, c1, c2, hs2])
         refine VS.widen [(0, [.d])] (by simp [covers, mpre]) ?_
         (try refine nr ?_);(repeat first|refine nb_ ?_|refine nl_ ?_);refine endK.o [8] [0] [(0, [.d])] ?_;simp [hF, retK, covers, mpre, eH, hc]
        ·refine (eown_r false h.things[k].items (by omega)).go [(0, [.d, .f 2, .i k, .f 4])] (by simp (maxSteps := 1000000) [hF, hn, hk, hsame, hm1, hp, hm, c1, c2, hs2]) ?_;rintro av X κ ⟨rfl, rfl, rfl⟩;simp (maxSteps := 1000000) [hF, hn, hk, hsame, hm1, hp, hm, c1, c2, hs2]
         repeat first|refine n1 ?_|(refine rg 11 [] [8] [] ?_;simp (maxSteps := 1000000) [hF, hn, hk, hsame, hm1, hp, hm, c1, c2, hs2])
         refine VS.widen [(0, [.d])] (by simp [covers, mpre]) ?_
         (try refine nr ?_);(repeat first|refine nb_ ?_|refine nl_ ?_);refine endK.o [8] [0] [(0, [.d])] ?_;simp [hF, retK, covers, mpre, eH, hc]
        ·refine (eown_r false h.things[k].items (by omega)).go [(0, [.d, .f 2, .i k, .f 4])] (by simp (maxSteps := 1000000) [hF, hn, hk, hsame, hm1, hp, hm, c1, c2, hs2]) ?_;rintro av X κ ⟨rfl, rfl, rfl⟩;simp (maxSteps := 1000000) [hF, hn, hk, hsame, hm1, hp, hm, c1, c2, hs2]
         repeat first|refine n1 ?_|(refine rg 11 [] [8] [] ?_;simp (maxSteps := 1000000) [hF, hn, hk, hsame, hm1, hp, hm, c1, c2, hs2])
         refine VS.widen [(0, [.d])] (by simp [covers, mpre]) ?_
         (try refine nr ?_);(repeat first|refine nb_ ?_|refine nl_ ?_);refine endK.o [8] [0] [(0, [.d])] ?_;simp [hF, retK, covers, mpre, eH, hc]
        ·refine (eown_r false h.things[k].items (by omega)).go [(0, [.d, .f 2, .i k, .f 4])] (by simp (maxSteps := 1000000) [hF, hn, hk, hsame, hm1, hp, hm, c1, c2, hs2]) ?_;rintro av X κ ⟨rfl, rfl, rfl⟩;simp (maxSteps := 1000000) [hF, hn, hk, hsame, hm1, hp, hm, c1, c2, hs2]
         repeat first|refine n1 ?_|(refine rg 11 [] [8] [] ?_;simp (maxSteps := 1000000) [hF, hn, hk, hsame, hm1, hp, hm, c1, c2, hs2])
         refine VS.widen [(0, [.d])] (by simp [covers, mpre]) ?_
         (try refine nr ?_);(repeat first|refine nb_ ?_|refine nl_ ?_);refine endK.o [8] [0] [(0, [.d])] ?_;simp [hF, retK, covers, mpre, eH, hc]
        ·refine (eown_r false h.things[k].items (by omega)).go [(0, [.d, .f 2, .i k, .f 4])] (by simp (maxSteps := 1000000) [hF, hn, hk, hsame, hm1, hp, hm, c1, c2, hs2]) ?_;rintro av X κ ⟨rfl, rfl, rfl⟩;simp (maxSteps := 1000000) [hF, hn, hk, hsame, hm1, hp, hm, c1, c2, hs2]
         repeat first|refine n1 ?_|(refine rg 11 [] [8] [] ?_;simp (maxSteps := 1000000) [hF, hn, hk, hsame, hm1, hp, hm, c1, c2, hs2])
         refine VS.widen [(0, [.d])] (by simp [covers, mpre]) ?_
         (try refine nr ?_);(repeat first|refine nb_ ?_|refine nl_ ?_);refine endK.o [8] [0] [(0, [.d])] ?_;simp [hF, retK, covers, mpre, eH, hc]
     ·have hc : pushE h w k z = (h, stateOf h w [(k : Int), z]) := by simp [pushE, ht, hk, hl, hs, hst]
      refine (estate_c2 h fl w hwl true k z ht hz).go [(0, []), (1, [])] (by simp (maxSteps := 1000000) [hF, hst, eH]) ?_;rintro av X κ ⟨rfl, rfl, rfl⟩;simp (maxSteps := 1000000) [hF, hst, eH]
      repeat first|refine n1 ?_|((first|refine rg 4 [0, 2, 3, 9] [0, 2, 3, 9, 44] [] ?_|refine rg 5 [9] [8] [] ?_|refine nc ?_);simp (maxSteps := 1000000) [hF, hst])
      refine VS.widen [(0, [.d])] (by simp [covers, mpre]) ?_
      (try refine nr ?_);(repeat first|refine nb_ ?_|refine nl_ ?_);refine endK.o [8] [0] [(0, [.d])] ?_;simp [hF, retK, covers, mpre, eH, hc]
theorem enew_bad (n : Int) (hn : n < 1 ∨ 8 < n) : Meets Try.prog 24 [] (.cons (avInt n) .nil) fun av X κ => av = avTwo avNil 1 ∧ X = [] ∧ κ = [] := by
 by_cases h1 : n < 1
 ·refine fb Try.func24 Try.ntmps24 [.tmp 2, .tmp 3] fun w0 I0 F0 hF => ?_
  repeat first|refine n1 ?_|((first|refine rg 0 [0] [0] [] ?_|refine rg 1 [0] [0, 9] [(2, 6)] ?_|refine rg 2 [] [2, 3] [] ?_|refine nc ?_);simp (maxSteps := 1000000) [hF, h1])
  (try refine nr ?_);(repeat first|refine nb_ ?_|refine nl_ ?_);refine endK.o [2, 3] [] [] ?_;simp [hF, retK, covers, mpre]
 ·have h2 : 8 < n := by omega
  refine fb Try.func24 Try.ntmps24 [.tmp 2, .tmp 3] fun w0 I0 F0 hF => ?_
  repeat first|refine n1 ?_|((first|refine rg 0 [0] [0] [] ?_|refine rg 1 [0] [0, 9] [(2, 6)] ?_|refine rg 2 [] [2, 3] [] ?_|refine nc ?_);simp (maxSteps := 1000000) [hF, h1, h2])
  (try refine nr ?_);(repeat first|refine nb_ ?_|refine nl_ ?_);refine endK.o [2, 3] [] [] ?_;simp [hF, retK, covers, mpre]
theorem enew_ok (n : Nat) (h1 : 1 ≤ n) (h2 : n ≤ 8) : Meets Try.prog 24 [] (.cons (avInt n) .nil) fun av X κ => av = avTwo (.ptr 0 [.d]) 0 ∧ X = [eH ⟨List.replicate n ⟨[], false⟩, []⟩ fun _ => true] ∧ κ = [] := by
 have h1i : ¬ (n : Int) < 1 := by omega
 have h2i : ¬ (8 : Int) < n := by omega
 have c1 : (n : Int) * 32 ≤ 140737488355328 := by omega
 have c2 : (n : Int) ≤ 9223372036854775807 := by omega
 have hz : ∀ X q k, emptySub X k q n true = none := fun X q k => by
  obtain ⟨m, rfl⟩ : ∃ m, n = m + 1 := ⟨n - 1, by omega⟩
  rfl
 have hr : (sq (List.replicate n (.agg (.cons (.val (.bool false)) (.cons (.sl true () 1 .nil) .nil)))) : D) = eRms true (List.replicate n ⟨[], false⟩) := by simp [eRms, eRm]
 have hm : (eRms true (List.replicate n ⟨[], false⟩)).mid 0 n = eRms true (List.replicate n ⟨[], false⟩) := by
  have := eRms_mid_all true (List.replicate n ⟨[], false⟩)
  simpa using this
 refine fb Try.func24 Try.ntmps24 [.tmp 2, .tmp 3] fun w0 I0 F0 hF => ?_
 repeat first|refine n1 ?_|refine n2 ?_|((first|refine rg 0 [0] [0] [] ?_|refine rg 1 [0] [0, 9] [(2, 6)] ?_|refine rg 3 [0] [2, 3] [] ?_|refine nc ?_);simp (maxSteps := 1000000) [hF, h1i, h2i, c1, c2, hz, hr, hm])
 (try refine nr ?_);(repeat first|refine nb_ ?_|refine nl_ ?_);refine endK.o [2, 3] [1] [] ?_;simp [hF, retK, covers, mpre, eH, eRmsF_true, eTgs, sq]
def takeFl (h : Hs) (who : Int) (fl : Nat → Bool) : Nat → Bool := if askOf h who [] = 0 then flSet fl who.toNat false else fl
theorem etake_ok (h : Hs) (fl : Nat → Bool) (hok : Hok h) (who : Int) : Meets Try.prog 61 [eH h fl] (.cons (.ptr 0 [.d]) (.cons (avInt who) .nil))
  fun av X κ => av = two (takeOf h who).2 ∧ X = [eH (takeOf h who).1 (takeFl h who fl)] ∧ κ = [(0, [.d])] := by
 refine fb Try.func61 Try.ntmps61 [.tmp 4, .tmp 5] fun w0 I0 F0 hF => ?_
 repeat first|refine n1 ?_|((first|refine rg 0 [0, 1] [0, 1] [] ?_|refine rg 1 [0, 1] [0, 1, 11] [] ?_);simp (maxSteps := 1000000) [hF])
 cases hr : isR h who with
 | false =>
  have hz : askOf h who [] = 1 := by simp [askOf, hr]
  have hc : takeOf h who = (h, 0, 1) := by simp [takeOf, hz]
  have hf : takeFl h who fl = fl := by simp [takeFl, hz]
  refine (ewho_c h fl who).go [(0, [])] (by simp (maxSteps := 1000000) [hF, hr, eH]) ?_;rintro av X κ ⟨rfl, rfl, rfl⟩;simp (maxSteps := 1000000) [hF, hr, eH]
  repeat first|refine n1 ?_|((first|refine rg 2 [] [4, 5] [] ?_|refine nc ?_);simp (maxSteps := 1000000) [hF])
  refine VS.widen [(0, [.d])] (by simp [covers, mpre]) ?_
  (try refine nr ?_);(repeat first|refine nb_ ?_|refine nl_ ?_);refine endK.o [4, 5] [0] [(0, [.d])] ?_;simp [hF, retK, covers, mpre, eH, hc, hf]
 | true =>
  obtain ⟨k, rfl, hk⟩ := isR_nat hr
  have hs := ask_state (l := []) hr (by simp)
  refine (ewho_c h fl k).go [(0, [])] (by simp (maxSteps := 1000000) [hF, hr, eH]) ?_;rintro av X κ ⟨rfl, rfl, rfl⟩;simp (maxSteps := 1000000) [hF, hr, eH]
  repeat first|refine n1 ?_|refine n2 ?_|((first|refine rg 3 [0, 1] [0, 1, 6] [] ?_|refine nc ?_);simp (maxSteps := 1000000) [hF])
  by_cases hz : stateOf h k [] = 0
  ·have hn := eRmsF_nth (fl := fl) hk
   have hql := (hok.queues _ (List.getElem_mem hk)).1
   refine (estate_cn h fl k hk).go [(0, [])] (by simp (maxSteps := 1000000) [hF, hz, eH]) ?_;rintro av X κ ⟨rfl, rfl, rfl⟩;simp (maxSteps := 1000000) [hF, hz, eH]
   cases hq : h.rooms[k].queue with
   | nil =>
    have hc : takeOf h k = (h, 0, 3) := by simp [takeOf, hs, hz, hk, hq]
    have hf : takeFl h k fl = flSet fl k false := by simp [takeFl, hs, hz]
    have hs2 := eRmsF_set fl h.rooms k [] h.rooms[k].over false
    have hself : h.rooms.set k ⟨[], h.rooms[k].over⟩ = h.rooms := by
     have e : (⟨[], h.rooms[k].over⟩ : Rm) = h.rooms[k] := by rw [← hq]
     rw [e, List.set_getElem_self]
    rw [hself, dInts_nil] at hs2
    rw [hq, dInts_nil] at hn
    repeat first|refine n1 ?_|refine n2 ?_|((first|refine rg 4 [0, 1, 6] [0, 1, 6, 16] [] ?_|refine nc ?_);simp (maxSteps := 1000000) [hF, hz])
    have hn2 := eRmsF_nth (fl := flSet fl k false) hk
    rw [show flSet fl k false k = false by simp [flSet], hq, dInts_nil] at hn2
    refine VS.cold 0 [.d, .f 1, .i k, .f 1] (by simp (maxSteps := 1000000) [hF, hn, hk, T.freeze]) (by simp (maxSteps := 1000000) [hF, hn, hk, T.freeze]) (by simp (maxSteps := 1000000) [hF, hn, hk, T.freeze]) ?_;simp [hF, St.cold, hn, hk, T.freeze]
    repeat first|refine n1 ?_|((first|refine rg 6 [0, 1] [0, 1, 7] [] ?_|refine rg 7 [0, 1, 7] [0, 1, 7, 28] [] ?_|refine rg 8 [] [4, 5] [] ?_|refine nc ?_);simp (maxSteps := 1000000) [hF, hn2, hk, T.nth_setN_same, hs2])
    refine VS.widen [(0, [.d])] (by simp [covers, mpre]) ?_
    (try refine nr ?_);(repeat first|refine nb_ ?_|refine nl_ ?_);refine endK.o [4, 5] [0] [(0, [.d])] ?_;simp [hF, retK, covers, mpre, eH, hc, hf]
   | cons x q =>
    have hc : takeOf h k = ({ h with rooms := h.rooms.set k (⟨q, h.rooms[k].over⟩ : Rm) }, x, 0) := by simp [takeOf, hs, hz, hk, hq, setRm]
    have hf : takeFl h k fl = flSet fl k false := by simp [takeFl, hs, hz]
    have hs2 := eRmsF_set fl h.rooms k q h.rooms[k].over false
    rw [hq] at hn hql
    have hn0 : (dInts (x :: q)).nth 0 = .val (.int .i64 x) := by rw [dInts_nth (by simp)]; rfl
    have hm : (dInts (x :: q)).mid 1 q.length = dInts q := by rw [dInts_mid]; simp
    have c1 : ¬ (q.length : Int) + 1 = 0 := by omega
    repeat first|refine n1 ?_|refine n2 ?_|((first|refine rg 4 [0, 1, 6] [0, 1, 6, 16] [] ?_|refine nc ?_);simp (maxSteps := 1000000) [hF, hz, hn, hk, c1])
    refine VS.cold 0 [.d, .f 1, .i k, .f 1] (by simp (maxSteps := 1000000) [hF, hn, hk, T.freeze]) (by simp (maxSteps := 1000000) [hF, hn, hk, T.freeze]) (by simp (maxSteps := 1000000) [hF, hn, hk, T.freeze]) ?_;simp [hF, St.cold, hn, hk, T.freeze]
    repeat first|refine n1 ?_|refine n2 ?_|((first|refine rg 6 [0, 1] [0, 1, 7] [] ?_|refine rg 7 [0, 1, 7] [0, 1, 7, 28] [] ?_|(refine dr 9 0 [0, 1, 7] [7] [] [⟨0, 1, 536870912, 5⟩, ⟨1, 536870912, 1073741824, 5⟩, ⟨2, 1073741824, 2147483648, 5⟩, ⟨4, 2147483648, 4294967296, 6⟩, ⟨0, 2, 8589934592, 5⟩, ⟨0, 128, 17179869184, 5⟩, ⟨32, 17179869184, 34359738368, 5⟩, ⟨127, 12884901888, 68719476736, 5⟩, ⟨255, 68719476736, 137438953472, 5⟩, ⟨383, 171798691840, 0, 0⟩] (.take 0 (.take 1 (.take 2 (.take 3 (.take 4 (.take 5 (.take 6 (.take 7 (.take 8 (.fork (.alt 9 (.done) (.nil)))))))))))) (.run [0, 1, 2, 3, 4, 5, 6, 7, 8, 9] (.done)) ?_;simp only [drs])|refine rg 10 [7] [4, 5] [] ?_|refine nc ?_);simp (maxSteps := 1000000) [hF, hn, hk, hn0, hs2, hm, c1, T.nth_setN_same])
    refine VS.widen [(0, [.d])] (by simp [covers, mpre]) ?_
    (try refine nr ?_);(repeat first|refine nb_ ?_|refine nl_ ?_);refine endK.o [4, 5] [0] [(0, [.d])] ?_;simp [hF, retK, covers, mpre, eH, hc, hf]
  ·have hc : takeOf h k = (h, 0, stateOf h k []) := by simp [takeOf, hs, hz]
   have hf : takeFl h k fl = fl := by simp [takeFl, hs, hz]
   refine (estate_cn h fl k hk).go [(0, [])] (by simp (maxSteps := 1000000) [hF, hz, eH]) ?_;rintro av X κ ⟨rfl, rfl, rfl⟩;simp (maxSteps := 1000000) [hF, hz, eH]
   repeat first|refine n1 ?_|((first|refine rg 4 [0, 1, 6] [0, 1, 6, 16] [] ?_|refine rg 5 [6] [4, 5] [] ?_|refine nc ?_);simp (maxSteps := 1000000) [hF, hz])
   refine VS.widen [(0, [.d])] (by simp [covers, mpre]) ?_
   (try refine nr ?_);(repeat first|refine nb_ ?_|refine nl_ ?_);refine endK.o [4, 5] [0] [(0, [.d])] ?_;simp [hF, retK, covers, mpre, eH, hc, hf]
def overFl (h : Hs) (who : Int) (fl : Nat → Bool) : Nat → Bool := if askOf h who [] = 0 then flSet fl who.toNat true else fl
theorem eover_ok (h : Hs) (fl : Nat → Bool) (hok : Hok h) (who : Int) : Meets Try.prog 62 [eH h fl] (.cons (.ptr 0 [.d]) (.cons (avInt who) .nil))
  fun av X κ => av = avInt (overOf h who).2 ∧ X = [eH (overOf h who).1 (overFl h who fl)] ∧ κ = [(0, [.d])] := by
 have hw : IntKind.i64.wrap (-2) = -2 := by decide
 have hbd := hok.things
 refine fb Try.func62 Try.ntmps62 [.tmp 4] fun w0 I0 F0 hF => ?_
 repeat first|refine n1 ?_|((first|refine rg 0 [0, 1] [0, 1] [] ?_|refine rg 1 [0, 1] [0, 1, 10] [] ?_);simp (maxSteps := 1000000) [hF])
 cases hr : isR h who with
 | false =>
  have hz : askOf h who [] = 1 := by simp [askOf, hr]
  have hc : overOf h who = (h, 1) := by simp [overOf, hz]
  have hf : overFl h who fl = fl := by simp [overFl, hz]
  refine (ewho_c h fl who).go [(0, [])] (by simp (maxSteps := 1000000) [hF, hr, eH]) ?_;rintro av X κ ⟨rfl, rfl, rfl⟩;simp (maxSteps := 1000000) [hF, hr, eH]
  repeat first|refine n1 ?_|((first|refine rg 2 [] [4] [] ?_|refine nc ?_);simp (maxSteps := 1000000) [hF])
  refine VS.widen [(0, [.d])] (by simp [covers, mpre]) ?_
  (try refine nr ?_);(repeat first|refine nb_ ?_|refine nl_ ?_);refine endK.o [4] [0] [(0, [.d])] ?_;simp [hF, retK, covers, mpre, eH, hc, hf]
 | true =>
  obtain ⟨k, rfl, hk⟩ := isR_nat hr
  have hs := ask_state (l := []) hr (by simp)
  refine (ewho_c h fl k).go [(0, [])] (by simp (maxSteps := 1000000) [hF, hr, eH]) ?_;rintro av X κ ⟨rfl, rfl, rfl⟩;simp (maxSteps := 1000000) [hF, hr, eH]
  repeat first|refine n1 ?_|refine n2 ?_|((first|refine rg 3 [0, 1] [0, 1, 5] [] ?_|refine nc ?_);simp (maxSteps := 1000000) [hF])
  by_cases hz : stateOf h k [] = 0
  ·have hc : overOf h k = ({ rooms := h.rooms.set k ⟨[], true⟩, things := h.things.map (goneF k) }, 0) := by simp [overOf, hs, hz]
   have hf : overFl h k fl = flSet fl k true := by simp [overFl, hs, hz]
   have hn := eRmsF_nth (fl := fl) hk
   have hs2 := eRmsF_set fl h.rooms k [] true true
   rw [dInts_nil] at hs2
   refine (estate_cn h fl k hk).go [(0, [])] (by simp (maxSteps := 1000000) [hF, hz, eH]) ?_;rintro av X κ ⟨rfl, rfl, rfl⟩;simp (maxSteps := 1000000) [hF, hz, eH]
   repeat first|refine n1 ?_|refine n2 ?_|((first|refine rg 4 [0, 1, 5] [0, 1, 5, 15] [] ?_|refine nc ?_);simp (maxSteps := 1000000) [hF, hz])
   refine VS.cold 0 [.d, .f 1, .i k, .f 1] (by simp (maxSteps := 1000000) [hF, hn, hk, T.freeze]) (by simp (maxSteps := 1000000) [hF, hn, hk, T.freeze]) (by simp (maxSteps := 1000000) [hF, hn, hk, T.freeze]) ?_;simp [hF, St.cold, hn, hk, T.freeze]
   repeat first|refine n1 ?_|refine n3 ?_|((first|refine rg 6 [0, 1] [0, 1] [] ?_|refine rg 7 [0, 1] [0, 1, 6] [] ?_);simp (maxSteps := 1000000) [hF, hn, hk, T.nth_setN_same, hs2])
   refine VS.widen [(0, [.d])] (by simp [covers, mpre]) ?_
   refine VS.rounds (fun m st => ∃ (i : Nat) (P : List Tg), i + m = h.things.length ∧ P = upto (goneF k) h.things i ∧ st = ⟨[(0, .ptr 0 [.d]), (1, avInt k), (6, avInt i)], [eH ⟨h.rooms.set k ⟨[], true⟩, P⟩ (flSet fl k true)], [(0, [.d])], []⟩) ⟨h.things.length, 0, h.things, by omega, (upto_zero _ _).symm, by simp [eH]⟩ ?_
   rintro m st ⟨i, P, hi, hP, rfl⟩
   have hPl : P.length = h.things.length := by simp [hP]
   repeat first|refine n1 ?_|((first|refine rg 8 [0, 1, 6] [0, 1, 6, 30] [] ?_|refine nc ?_);simp (maxSteps := 1000000) [hF, eH])
   refine ⟨fun hlt => ?_, fun hge => ?_⟩
   ·have hlP : i < P.length := by omega
    have hlt' : i < h.things.length := by omega
    have hn := eTgs_nth (o := true) hlP
    have hPi : P[i] = h.things[i] := by subst hP; exact upto_at hlt'
    have hset := eTgs_set true P i (-2) h.things[i].list h.things[i].word h.things[i].items h.things[i].frozen
    rw [hPi] at hn
    have hw1 : IntKind.i64.wrap ((i : Int) + 1) = (i + 1 : Nat) := by rw [IntWalk.i64_in _ (by omega)]; rfl
    by_cases ho : h.things[i].owner = k
    ·have hst : P.set i ⟨-2, h.things[i].list, h.things[i].word, h.things[i].items, h.things[i].frozen⟩ = upto (goneF k) h.things (i + 1) := by
      rw [← upto_set hlt', hP]; simp [goneF, ho]
     repeat first|refine n1 ?_|refine n2 ?_|refine n3 ?_|refine n4 ?_|refine n5 ?_|refine n6 ?_|((first|refine rg 9 [0, 1, 6] [0, 1, 6] [] ?_|refine rg 10 [0, 1, 6] [0, 1, 6, 42] [] ?_|refine rg 11 [0, 1, 6] [0, 1, 6] [] ?_|refine nc ?_);simp (maxSteps := 1000000) [hF, eH, hn, hlP, ho, hset, hw1, hw])
     refine nextK.of [0, 1, 6] [0] (m - 1) (by omega) (by simp [hF]) ?_
     refine ⟨i + 1, _, by omega, hst, ?_⟩
     simp [eH]
    ·have hst : P = upto (goneF k) h.things (i + 1) := by
      rw [upto_skip hlt' (by simp [goneF, ho]), hP]
     repeat first|refine n1 ?_|refine n2 ?_|refine n3 ?_|refine n4 ?_|refine n5 ?_|refine n6 ?_|((first|refine rg 9 [0, 1, 6] [0, 1, 6] [] ?_|refine rg 10 [0, 1, 6] [0, 1, 6, 42] [] ?_|refine nc ?_);simp (maxSteps := 1000000) [hF, eH, hn, hlP, ho, hset, hw1, hw])
     refine nextK.of [0, 1, 6] [0] (m - 1) (by omega) (by simp [hF]) ?_
     refine ⟨i + 1, P, by omega, hst, ?_⟩
     simp [eH]
   ·have hPf : P = h.things.map (goneF k) := by rw [hP, show i = h.things.length by omega, upto_all]
    repeat first|refine n1 ?_|refine n7 ?_|(refine rg 12 [] [4] [] ?_;simp (maxSteps := 1000000) [hF])
    refine VS.widen [(0, [.d])] (by simp [covers, mpre]) ?_
    (try refine nr ?_);(repeat first|refine nb_ ?_|refine nl_ ?_);refine endK.o [4] [0] [(0, [.d])] ?_;simp [hF, retK, covers, mpre, eH, hc, hf, hPf]
  ·have hc : overOf h k = (h, stateOf h k []) := by simp [overOf, hs, hz]
   have hf : overFl h k fl = fl := by simp [overFl, hs, hz]
   refine (estate_cn h fl k hk).go [(0, [])] (by simp (maxSteps := 1000000) [hF, hz, eH]) ?_;rintro av X κ ⟨rfl, rfl, rfl⟩;simp (maxSteps := 1000000) [hF, hz, eH]
   repeat first|refine n1 ?_|((first|refine rg 4 [0, 1, 5] [0, 1, 5, 15] [] ?_|refine rg 5 [5] [4] [] ?_|refine nc ?_);simp (maxSteps := 1000000) [hF, hz])
   refine VS.widen [(0, [.d])] (by simp [covers, mpre]) ?_
   (try refine nr ?_);(repeat first|refine nb_ ?_|refine nl_ ?_);refine endK.o [4] [0] [(0, [.d])] ?_;simp [hF, retK, covers, mpre, eH, hc, hf]
def shareE (h : Hs) (who x : Int) : Hs × Int :=
 if isR h who = false ∨ isT h x = false ∨ (¬ (gd h.things x).owner = -2 ∧ shblE h.things x = false) then (h, 1)
 else if ¬ stateOf h who [x] = 0 then (h, stateOf h who [x]) else ({ h with things := paint (ownF (-1)) (reachE h.things false x) h.things }, 0)
theorem eshare_ok (h : Hs) (fl : Nat → Bool) (hok : Hok h) (who x : Int) : Meets Try.prog 58 [eH h fl] (.cons (.ptr 0 [.d]) (.cons (avInt who) (.cons (avInt x) .nil)))
  fun av X κ => av = avInt (shareE h who x).2 ∧ X = [eH (shareE h who x).1 fl] ∧ κ = [(0, [.d])] := by
 have hw : IntKind.i64.wrap (-2) = -2 := by decide
 have hw1 : IntKind.i64.wrap (-1) = -1 := by decide
 refine fb Try.func58 Try.ntmps58 [.tmp 6] fun w0 I0 F0 hF => ?_
 repeat first|refine n1 ?_|((first|refine rg 0 [0, 1, 2] [0, 1, 2] [] ?_|refine rg 1 [0, 1, 2] [0, 1, 2, 36] [(4, 14), (10, 20), (20, 30)] ?_);simp (maxSteps := 1000000) [hF])
 cases hr : isR h who with
 | false =>
  have hc : shareE h who x = (h, 1) := by simp [shareE, hr]
  refine (ewho_c h fl who).go [(0, [])] (by simp (maxSteps := 1000000) [hF, hr, eH]) ?_;rintro av X κ ⟨rfl, rfl, rfl⟩;simp (maxSteps := 1000000) [hF, hr, eH]
  repeat first|refine n1 ?_|((first|refine rg 2 [] [6] [] ?_|refine nc ?_);simp (maxSteps := 1000000) [hF])
  refine VS.widen [(0, [.d])] (by simp [covers, mpre]) ?_
  (try refine nr ?_);(repeat first|refine nb_ ?_|refine nl_ ?_);refine endK.o [6] [0] [(0, [.d])] ?_;simp [hF, retK, covers, mpre, eH, hc]
 | true =>
  obtain ⟨w, rfl, hwl⟩ := isR_nat hr
  refine (ewho_c h fl w).go [(0, [])] (by simp (maxSteps := 1000000) [hF, hr, eH]) ?_;rintro av X κ ⟨rfl, rfl, rfl⟩;simp (maxSteps := 1000000) [hF, hr, eH]
  cases ht : isT h x with
  | false =>
   have hc : shareE h w x = (h, 1) := by simp [shareE, ht]
   refine (ething_c h fl x).go [(0, [])] (by simp (maxSteps := 1000000) [hF, ht, eH]) ?_;rintro av X κ ⟨rfl, rfl, rfl⟩;simp (maxSteps := 1000000) [hF, ht, eH]
   repeat first|refine n1 ?_|((first|refine rg 2 [] [6] [] ?_|refine nc ?_);simp (maxSteps := 1000000) [hF])
   refine VS.widen [(0, [.d])] (by simp [covers, mpre]) ?_
   (try refine nr ?_);(repeat first|refine nb_ ?_|refine nl_ ?_);refine endK.o [6] [0] [(0, [.d])] ?_;simp [hF, retK, covers, mpre, eH, hc]
  | true =>
   obtain ⟨k, rfl, hk⟩ := isT_nat ht
   have hn := eTgs_nth (o := true) hk
   by_cases hg : h.things[k].owner = -2
   ·have hz : ¬ stateOf h w [(k : Int)] = 0 := fun hz => by
     unfold stateOf at hz
     split at hz
     ·cases hz
     ·have : seesB h w (k : Int) = false := by simp [seesB, hk, hg]
      simp [this] at hz
    have hc : shareE h w k = (h, stateOf h w [(k : Int)]) := by simp [shareE, hr, ht, hk, hg, hz]
    refine (ething_c h fl k).go [(0, [])] (by simp (maxSteps := 1000000) [hF, ht, eH, hn, hk, hg, hw]) ?_;rintro av X κ ⟨rfl, rfl, rfl⟩;simp (maxSteps := 1000000) [hF, ht, eH, hn, hk, hg, hw]
    repeat first|refine n1 ?_|refine n2 ?_|((first|refine rg 3 [0, 1, 2] [0, 2, 7] [] ?_|refine nc ?_);simp (maxSteps := 1000000) [hF, hn, hk, hg])
    refine (estate_c1 h fl w hwl true k ht).go [(0, []), (1, [])] (by simp (maxSteps := 1000000) [hF, hz, eH]) ?_;rintro av X κ ⟨rfl, rfl, rfl⟩;simp (maxSteps := 1000000) [hF, hz, eH]
    repeat first|refine n1 ?_|((first|refine rg 4 [0, 2, 7] [0, 2, 7, 43] [] ?_|refine rg 5 [7] [6] [] ?_|refine nc ?_);simp (maxSteps := 1000000) [hF, hz])
    refine VS.widen [(0, [.d])] (by simp [covers, mpre]) ?_
    (try refine nr ?_);(repeat first|refine nb_ ?_|refine nl_ ?_);refine endK.o [6] [0] [(0, [.d])] ?_;simp [hF, retK, covers, mpre, eH, hc]
   ·refine (ething_c h fl k).go [(0, [])] (by simp (maxSteps := 1000000) [hF, ht, eH, hn, hk, hg, hw]) ?_;rintro av X κ ⟨rfl, rfl, rfl⟩;simp (maxSteps := 1000000) [hF, ht, eH, hn, hk, hg, hw]
    cases hsb : shblE h.things (k : Int) with
    | false =>
     have hc : shareE h w k = (h, 1) := by simp [shareE, hk, hg, hsb]
     refine (eshareable_c h fl hok k hk).go [(0, [])] (by simp (maxSteps := 1000000) [hF, hsb, eH]) ?_;rintro av X κ ⟨rfl, rfl, rfl⟩;simp (maxSteps := 1000000) [hF, hsb, eH]
     repeat first|refine n1 ?_|((first|refine rg 2 [] [6] [] ?_|refine nc ?_);simp (maxSteps := 1000000) [hF, hsb])
     refine VS.widen [(0, [.d])] (by simp [covers, mpre]) ?_
     (try refine nr ?_);(repeat first|refine nb_ ?_|refine nl_ ?_);refine endK.o [6] [0] [(0, [.d])] ?_;simp [hF, retK, covers, mpre, eH, hc]
    | true =>
     refine (eshareable_c h fl hok k hk).go [(0, [])] (by simp (maxSteps := 1000000) [hF, hsb, eH]) ?_;rintro av X κ ⟨rfl, rfl, rfl⟩;simp (maxSteps := 1000000) [hF, hsb, eH]
     repeat first|refine n1 ?_|refine n2 ?_|((first|refine rg 3 [0, 1, 2] [0, 2, 7] [] ?_|refine nc ?_);simp (maxSteps := 1000000) [hF, hsb])
     by_cases hz : stateOf h w [(k : Int)] = 0
     ·have hc : shareE h w k = ({ h with things := paint (ownF (-1)) (reachE h.things false k) h.things }, 0) := by simp [shareE, hr, ht, hk, hg, hsb, hz]
      refine (estate_c1 h fl w hwl true k ht).go [(0, []), (1, [])] (by simp (maxSteps := 1000000) [hF, hz, eH]) ?_;rintro av X κ ⟨rfl, rfl, rfl⟩;simp (maxSteps := 1000000) [hF, hz, eH]
      repeat first|refine n1 ?_|refine n2 ?_|((first|refine rg 4 [0, 2, 7] [0, 2, 7, 43] [] ?_|refine rg 6 [0, 2] [0, 8] [] ?_|refine nc ?_);simp (maxSteps := 1000000) [hF, hz])
      refine (ereach_c h fl hok false k hk).go [(0, [])] (by simp (maxSteps := 1000000) [hF, eH]) ?_;rintro av X κ ⟨rfl, rfl, rfl⟩;simp (maxSteps := 1000000) [hF, eH]
      repeat first|refine n1 ?_|refine n3 ?_|(refine rg 7 [0, 8] [0, 8, 9] [] ?_;simp (maxSteps := 1000000) [hF])
      refine VS.cool 8 (by simp (maxSteps := 1000000) [hF]) ?_;simp [hF, St.cool]
      refine VS.widen [(0, [.d])] (by simp [covers, mpre]) ?_
      refine VS.pick [0, 8, 9] [0] (by simp [hF]) ?_;simp [hF]
      have hrl := reachE_len hok false hk
      have hLv : ∀ i, (hi : i < (reachE h.things false (k : Int)).length) → ∃ y : Nat, (reachE h.things false (k : Int))[i] = y ∧ y < h.things.length := fun i hi => reachE_nat hok false hk hi
      generalize hL : reachE h.things false (k : Int) = L at *
      refine VS.rounds (fun m st => ∃ (i : Nat) (P : List Tg), i + m = L.length ∧ P = paint (ownF (-1)) (L.take i) h.things ∧ st = ⟨[(0, .ptr 0 [.d]), (8, .imm 1 (dInts L) false), (9, avInt i)], [eH ⟨h.rooms, P⟩ fl], [(0, [.d])], []⟩) ⟨L.length, 0, h.things, by omega, by simp [paint_nil], by simp [eH]⟩ ?_
      rintro m st ⟨i, P, hi, hP, rfl⟩
      have hPl : P.length = h.things.length := by simp [hP]
      repeat first|refine n1 ?_|((first|refine rg 8 [0, 8, 9] [0, 8, 9, 51] [] ?_|refine nc ?_);simp (maxSteps := 1000000) [hF])
      refine ⟨fun hlt => ?_, fun hge => ?_⟩
      ·obtain ⟨y, hy, hyl⟩ := hLv i hlt
       have hyP : y < P.length := by omega
       have hn2 := eTgs_nth (o := true) hyP
       have hin : (dInts L).nth i = .val (.int .i64 y) := by rw [dInts_nth hlt, hy]
       have hw2 : IntKind.i64.wrap ((i : Int) + 1) = (i + 1 : Nat) := by rw [IntWalk.i64_in _ (by omega)]; rfl
       have hset := eTgs_set true P y (-1) P[y].list P[y].word P[y].items P[y].frozen
       have hst : P.set y ⟨-1, P[y].list, P[y].word, P[y].items, P[y].frozen⟩ = paint (ownF (-1)) (L.take (i + 1)) h.things := by
        have e : L.take (i + 1) = L.take i ++ [(y : Int)] := by rw [List.take_add_one, List.getElem?_eq_getElem hlt, hy]; rfl
        rw [e, ← paint_step (f := ownF (-1)) (fun _ => rfl) hyl]
        subst hP; rfl
       repeat first|refine n1 ?_|refine n2 ?_|refine n3 ?_|refine n4 ?_|refine n5 ?_|refine n6 ?_|((first|refine rg 9 [0, 8, 9] [0, 8, 9] [] ?_|(refine dr 10 0 [0, 8, 9] [0, 8, 9] [] [⟨0, 1, 18014398509481984, 5⟩, ⟨1, 18014398509481984, 36028797018963968, 5⟩, ⟨2, 36028797018963968, 72057594037927936, 5⟩, ⟨4, 72057594037927936, 144115188075855872, 6⟩, ⟨0, 256, 288230376151711744, 5⟩, ⟨0, 512, 576460752303423488, 5⟩, ⟨48, 864691128455135232, 1152921504606846976, 5⟩, ⟨64, 1152921504606846976, 2305843009213693952, 6⟩, ⟨255, 2449958197289549824, 4611686018427387904, 5⟩, ⟨511, 4611686018427387904, 9223372036854775808, 5⟩, ⟨767, 9223372036854775808, 0, 0⟩] (.take 0 (.take 1 (.take 2 (.take 3 (.take 4 (.take 5 (.take 6 (.take 7 (.take 8 (.take 9 (.fork (.alt 10 (.done) (.nil))))))))))))) (.run [0, 1, 2, 3, 4, 5, 6, 7, 8, 9, 10] (.done)) ?_;simp only [drs]));simp (maxSteps := 1000000) [hF, hin, hlt, eH, hn2, hyP, hyl, hset, hw1, hw2])
       refine nextK.of [0, 8, 9] [0] (m - 1) (by omega) (by simp [hF]) ?_
       refine ⟨i + 1, _, by omega, hst, ?_⟩
       simp [eH]
      ·have hPf : P = paint (ownF (-1)) L h.things := by rw [hP, List.take_of_length_le (by omega)]
       repeat first|refine n1 ?_|refine n7 ?_|(refine rg 11 [] [6] [] ?_;simp (maxSteps := 1000000) [hF])
       (try refine nr ?_);(repeat first|refine nb_ ?_|refine nl_ ?_);refine endK.o [6] [0] [(0, [.d])] ?_;simp [hF, retK, covers, mpre, eH, hc, hPf]
     ·have hc : shareE h w k = (h, stateOf h w [(k : Int)]) := by simp [shareE, hr, ht, hk, hg, hsb, hz]
      refine (estate_c1 h fl w hwl true k ht).go [(0, []), (1, [])] (by simp (maxSteps := 1000000) [hF, hz, eH]) ?_;rintro av X κ ⟨rfl, rfl, rfl⟩;simp (maxSteps := 1000000) [hF, hz, eH]
      repeat first|refine n1 ?_|((first|refine rg 4 [0, 2, 7] [0, 2, 7, 43] [] ?_|refine rg 5 [7] [6] [] ?_|refine nc ?_);simp (maxSteps := 1000000) [hF, hz])
      refine VS.widen [(0, [.d])] (by simp [covers, mpre]) ?_
      (try refine nr ?_);(repeat first|refine nb_ ?_|refine nl_ ?_);refine endK.o [6] [0] [(0, [.d])] ?_;simp [hF, retK, covers, mpre, eH, hc]
end Go.Proofs.Ytkkbcpcihadkhaa

/- What is a thing's own is what the document's walk meets that leaves shared things out. -/
namespace Go.Proofs.Ytkkbcpcihadkhaa
set_option linter.all false
open Go.Vc Go.Proofs
theorem rV_filter {L : List Tg} (hL : ItemsOk L) (hap : ∀ y, notSh L y = false → ∀ z ∈ itemsOf L y, notSh L z = false) : ∀ (n : Nat) (out : List Int) (y : Int), left L out ≤ n → 0 ≤ y ∧ y < L.length →
    (rV (okF L true) L n out y).filter (notSh L) = rV (okF L false) L n (out.filter (notSh L)) y
  | 0, _, _, _, _ => rfl
  | n + 1, out, y, hn, hy => by
    have hf : ∀ (l : List Int), (∀ z ∈ l, 0 ≤ z ∧ z < L.length) → ∀ o : List Int, left L o ≤ n → (l.foldl (rV (okF L true) L n) o).filter (notSh L) = l.foldl (rV (okF L false) L n) (o.filter (notSh L)) := by
      intro l
      induction l with
      | nil => exact fun _ _ _ => rfl
      | cons a l ih =>
        intro hl o ho
        rw [List.foldl_cons, List.foldl_cons, ih (fun z h => hl z (by simp [h])) _ (Nat.le_trans (left_le L fun z h => rV_mem _ L n _ _ _ h) ho), rV_filter hL hap n o a ho (hl a (by simp))]
    by_cases hin : y ∈ out
    · rw [rV_in _ hin]
      cases hs : notSh L y with
      | true => rw [rV_in _ (List.mem_filter.2 ⟨hin, hs⟩)]
      | false => simp [rV, okF, hs]
    · cases hs : notSh L y with
      | false =>
        obtain ⟨e, h1, h2⟩ := rV_ext (ok := okF L true) (L := L) (Q := fun z => notSh L z = false) hap (n + 1) out y hs
        have h3 : e.filter (notSh L) = [] := List.filter_eq_nil_iff.2 fun z hz => by simp [h2 z hz]
        rw [h1, List.filter_append, h3, List.append_nil]
        simp [rV, okF, hs]
      | true =>
        have hlt := left_lt L hy hin
        have hnf : ¬ y ∈ out.filter (notSh L) := fun h => hin (List.mem_filter.1 h).1
        have e1 : rV (okF L true) L (n + 1) out y = (itemsOf L y).foldl (rV (okF L true) L n) (out ++ [y]) := by simp [rV, okF, hin]
        have e2 : rV (okF L false) L (n + 1) (out.filter (notSh L)) y = (itemsOf L y).foldl (rV (okF L false) L n) (out.filter (notSh L) ++ [y]) := by
          rw [rV, if_neg (by simp [hnf, okF, hs])]
        rw [e1, e2, hf _ (itemsOf_ok hL y) _ (by omega), List.filter_append]
        simp [hs]
theorem Hok.sharedIn {h : Hs} (hok : Hok h) : ∀ y, notSh h.things y = false → ∀ z ∈ itemsOf h.things y, notSh h.things z = false := by
  intro y hy z hz
  by_cases hl : y.toNat < h.things.length
  · have e : itemsOf h.things y = h.things[y.toNat].items := by simp [itemsOf, hl]
    have eo : gd h.things y = h.things[y.toNat] := by simp [gd, hl]
    rw [e] at hz
    have ho : h.things[y.toNat].owner = -1 := by simpa [notSh, eo] using hy
    have := hok.apart _ (List.getElem_mem hl) z hz
    rw [ho] at this
    have h2 : (gd h.things z).owner = -1 := by rw [gd]; exact this.elim id id
    simp [notSh, h2]
  · have e : itemsOf h.things y = [] := by simp [itemsOf, tgD, List.getElem?_eq_none (Nat.le_of_not_lt hl)]
    rw [e] at hz; cases hz
theorem own_reachE {h : Hs} (hok : Hok h) {x : Nat} (hx : x < h.things.length) : ownA h.things x = reachE h.things false x := by
  have hr : reachA h.things x = rV (okF h.things true) h.things h.things.length [] x := by
    have : okF h.things true = fun _ => true := by funext z; simp [okF]
    rw [reachA, this]
  rw [ownA, hr, rV_filter hok.items hok.sharedIn _ _ _ (by rw [left_nil]; exact Nat.le_refl _) ⟨by omega, by omega⟩]
  rfl
def sendingE (h : Hs) (who to x : Int) : Int := if overB h to = true then 8 else stateOf h who [x]
def moveE (h : Hs) (who to x : Int) : Hs × Int :=
  if isR h who = false ∨ isR h to = false ∨ isT h x = false then (h, 1)
  else if (gd h.things x).owner = who ∧ tiedOf h who (reachE h.things false x) = true then (h, 1)
  else if ¬ sendingE h who to x = 0 then (h, sendingE h who to x) else if 50 ≤ (gr h.rooms to).queue.length then (h, 9)
  else (putOf { h with things := paint (ownF to) (reachE h.things false x) h.things } to x, 0)
def normT (t : Tg) : Tg := { t with frozen := t.frozen || decide (t.owner = -1) }
def norm (h : Hs) : Hs := { h with things := h.things.map normT }
@[simp] theorem normT_owner (t : Tg) : (normT t).owner = t.owner := rfl
@[simp] theorem normT_list (t : Tg) : (normT t).list = t.list := rfl
@[simp] theorem normT_word (t : Tg) : (normT t).word = t.word := rfl
@[simp] theorem normT_items (t : Tg) : (normT t).items = t.items := rfl
@[simp] theorem normT_D : normT tgD = tgD := rfl
@[simp] theorem gd_norm (L : List Tg) (x : Int) : gd (L.map normT) x = normT (gd L x) := by
  simp only [gd, List.getD_eq_getElem?_getD, List.getElem?_map]
  cases L[x.toNat]? <;> rfl
@[simp] theorem norm_rooms (h : Hs) : (norm h).rooms = h.rooms := rfl
@[simp] theorem norm_things (h : Hs) : (norm h).things = h.things.map normT := rfl
theorem itemsOf_gd (L : List Tg) (y : Int) : itemsOf L y = (gd L y).items := rfl
@[simp] theorem itemsOf_norm (L : List Tg) (y : Int) : itemsOf (L.map normT) y = itemsOf L y := by simp only [itemsOf_gd, gd_norm, normT_items]
@[simp] theorem notSh_norm (L : List Tg) (y : Int) : notSh (L.map normT) y = notSh L y := by simp only [notSh, gd_norm, normT_owner]
theorem notSh_normf (L : List Tg) : notSh (L.map normT) = notSh L := funext fun y => notSh_norm L y
@[simp] theorem isR_norm (h : Hs) (x : Int) : isR (norm h) x = isR h x := rfl
@[simp] theorem isT_norm (h : Hs) (x : Int) : isT (norm h) x = isT h x := by simp [isT]
@[simp] theorem overB_norm (h : Hs) (x : Int) : overB (norm h) x = overB h x := rfl
theorem seesB_gd (h : Hs) (who x : Int) : seesB h who x = decide ((gd h.things x).owner = who ∨ (gd h.things x).owner = -1) := rfl
@[simp] theorem seesB_norm (h : Hs) (who x : Int) : seesB (norm h) who x = seesB h who x := by simp only [seesB_gd, norm_things, gd_norm, normT_owner]
@[simp] theorem askOf_norm (h : Hs) (who : Int) (l : List Int) : askOf (norm h) who l = askOf h who l := by
  have e1 : isT (norm h) = isT h := funext fun x => isT_norm h x
  have e2 : seesB (norm h) who = seesB h who := funext fun x => seesB_norm h who x
  simp only [askOf, e1, e2, isR_norm, overB_norm]
@[simp] theorem indexOf_norm (h : Hs) (x i : Int) : indexOf (norm h) x i = indexOf h x i := by simp only [indexOf, isT_norm, norm_things, gd_norm, normT_list, normT_items]
theorem rV_norm (ok : Int → Bool) (L : List Tg) : ∀ (n : Nat) (out : List Int) (y : Int), rV ok (L.map normT) n out y = rV ok L n out y
  | 0, _, _ => rfl
  | n + 1, out, y => by
    have e : rV ok (L.map normT) n = rV ok L n := funext fun o => funext fun z => rV_norm ok L n o z
    simp only [rV, e, itemsOf_norm]
@[simp] theorem reachA_norm (L : List Tg) (x : Int) : reachA (L.map normT) x = reachA L x := by simp only [reachA, List.length_map, rV_norm]
@[simp] theorem ownA_norm (L : List Tg) (x : Int) : ownA (L.map normT) x = ownA L x := by simp only [ownA, reachA_norm, notSh_normf]
@[simp] theorem sendsOf_norm (h : Hs) (who to x : Int) : sendsOf (norm h) who to x = sendsOf h who to x := by rw [sendsOf, sendsOf, isT_norm, seesB_norm]; rfl
theorem tiedAt_norm (h : Hs) (who : Int) (l : List Int) : tiedAt (norm h) who l = tiedAt h who l := by
  funext y
  simp only [tiedAt, norm_things, gd_norm, normT_owner, normT_items]
@[simp] theorem tiedOf_norm (h : Hs) (who : Int) (l : List Int) : tiedOf (norm h) who l = tiedOf h who l := by
  simp only [tiedOf, tiedAt_norm, norm_things, List.length_map, norm_rooms]
theorem norm_setTg (h : Hs) (x : Int) (t : Tg) : norm (setTg h x t) = setTg (norm h) x (normT t) := by simp [norm, setTg, List.map_set]
theorem put_with (h : Hs) (L : List Tg) (to x : Int) : norm (putOf { h with things := L } to x) = putOf { h with things := L.map normT } to x := rfl
theorem setTg_same {h : Hs} {x : Int} (t : Tg) (ht : gd h.things x = t) : setTg h x t = h := by
  subst ht
  have e : h.things.set x.toNat (gd h.things x) = h.things := by
    refine List.ext_getElem (by simp) fun i h1 h2 => ?_
    rw [List.getElem_set]
    split
    · rename_i e; subst e; simp [gd, h2]
    · rfl
  simp only [setTg, e]
theorem norm_hok {h : Hs} : Hok (norm h) ↔ Hok h := by
  have e : ∀ z : Int, ((h.things.map normT).getD z.toNat tgD).owner = (h.things.getD z.toNat tgD).owner := fun z => (congrArg Tg.owner (gd_norm h.things z) :)
  constructor
  · intro k
    refine ⟨k.rooms, by simpa using k.things, fun t ht => k.few (normT t) (List.mem_map_of_mem ht), fun t ht z hz => ?_, fun r hr => ?_, fun t ht => k.owners (normT t) (List.mem_map_of_mem (f := normT) ht), fun t ht hl => k.leaves (normT t) (List.mem_map_of_mem (f := normT) ht) hl, fun t ht z hz => ?_⟩
    · have := k.items _ (List.mem_map_of_mem (f := normT) ht) z hz; simpa using this
    · have := k.queues r hr; simpa using this
    · have := k.apart _ (List.mem_map_of_mem (f := normT) ht) z hz
      simp only [norm_things, e] at this; exact this
  · intro k
    refine ⟨k.rooms, by simpa using k.things, fun t ht => ?_, fun t ht z hz => ?_, fun r hr => ?_, fun t ht => ?_, fun t ht hl => ?_, fun t ht z hz => ?_⟩
    · obtain ⟨u, hu, rfl⟩ := List.mem_map.1 ht; exact k.few u hu
    · obtain ⟨u, hu, rfl⟩ := List.mem_map.1 ht; simpa using k.items u hu z hz
    · simpa using k.queues r hr
    · obtain ⟨u, hu, rfl⟩ := List.mem_map.1 ht; exact k.owners u hu
    · obtain ⟨u, hu, rfl⟩ := List.mem_map.1 ht; exact k.leaves u hu hl
    · obtain ⟨u, hu, rfl⟩ := List.mem_map.1 ht
      have := k.apart u hu z hz
      simp only [norm_things, e]; exact this
def nrm {α : Type} (p : Hs × α) : Hs × α := (norm p.1, p.2)
theorem addOf_norm (h : Hs) (t : Tg) (ht : normT t = t) : addOf (norm h) t = nrm (addOf h t) := by
  simp only [addOf, nrm, norm_things, List.length_map]
  split <;> simp [norm, ht]
theorem askOf_r {h : Hs} {who : Int} {l : List Int} (ha : askOf h who l = 0) : isR h who = true ∧ l.all (isT h) = true ∧ overB h who = false ∧ l.all (seesB h who) = true := by
  simp only [askOf] at ha
  split at ha
  · cases ha
  · split at ha
    · cases ha
    · split at ha
      · cases ha
      · rename_i h1 h2 h3
        cases h4 : isR h who <;> cases h5 : l.all (isT h) <;> simp_all
theorem isR_nn {h : Hs} {who : Int} (hr : isR h who = true) : 0 ≤ who ∧ who < h.rooms.length := by simpa [isR] using hr
theorem t_leaf (h : Hs) (who w : Int) : leafOf (norm h) who w = nrm (leafOf h who w) := by
  simp only [leafOf, askOf_norm]
  split
  · rfl
  · split
    · rfl
    · rename_i h1 h2
      have hr := isR_nn (askOf_r (by simpa using h2)).1
      refine addOf_norm h _ ?_
      have : ¬ who = -1 := by omega
      simp [normT, this]
theorem t_list (h : Hs) (who : Int) (l : List Int) : listOf (norm h) who l = nrm (listOf h who l) := by
  simp only [listOf, askOf_norm]
  split
  · rfl
  · split
    · rfl
    · rename_i h1 h2
      have hr := isR_nn (askOf_r (by simpa using h2)).1
      refine addOf_norm h _ ?_
      have : ¬ who = -1 := by omega
      simp [normT, this]
theorem froze_norm (L : List Tg) (x : Int) : (normT (gd L x)).frozen = frozeE L x := by simp [frozeE, normT, notSh]
theorem normT_with (t : Tg) (l : List Int) : normT { t with items := l } = { normT t with items := l } := rfl
theorem t_set (h : Hs) (who x i z : Int) : setOf (norm h) who x i z = nrm (setE h who x i z) := by
  by_cases h1 : indexOf h x i = 0
  · by_cases h2 : askOf h who [x, z] = 0
    · cases h3 : frozeE h.things x with
      | true => simp [setOf, setE, h1, h2, h3, froze_norm, nrm]
      | false =>
        have e : setOf (norm h) who x i z = (setTg (norm h) x { normT (gd h.things x) with items := (gd h.things x).items.set i.toNat z }, 0) := by simp [setOf, h1, h2, h3, froze_norm]
        rw [e, ← normT_with, ← norm_setTg]
        simp [setE, h1, h2, h3, nrm]
    · simp [setOf, setE, h1, h2, nrm]
  · simp [setOf, setE, h1, nrm]
theorem t_push (h : Hs) (who x z : Int) : pushOf (norm h) who x z = nrm (pushE h who x z) := by
  by_cases h1 : isT h x = true ∧ (gd h.things x).list = false
  · simp [pushOf, pushE, h1, nrm]
  · by_cases h2 : askOf h who [x, z] = 0
    · cases h3 : frozeE h.things x with
      | true => simp [pushOf, pushE, h1, h2, h3, froze_norm, nrm]
      | false =>
        by_cases h4 : 50 ≤ (gd h.things x).items.length
        · simp [pushOf, pushE, h1, h2, h3, h4, froze_norm, nrm]
        · have e : pushOf (norm h) who x z = (setTg (norm h) x { normT (gd h.things x) with items := (gd h.things x).items ++ [z] }, 0) := by simp [pushOf, h1, h2, h3, h4, froze_norm]
          rw [e, ← normT_with, ← norm_setTg]
          simp [pushE, h1, h2, h3, h4, nrm]
    · simp [pushOf, pushE, h1, h2, nrm]
def Raw (h : Hs) : Prop := ∀ t ∈ h.things, t.list = false → t.frozen = false
theorem Raw.gd {h : Hs} (hr : Raw h) {x : Int} (hl : (gd h.things x).list = false) : (gd h.things x).frozen = false := by
  by_cases hx : x.toNat < h.things.length
  · have e : Go.Proofs.Ytkkbcpcihadkhaa.gd h.things x = h.things[x.toNat] := by simp [Go.Proofs.Ytkkbcpcihadkhaa.gd, hx]
    rw [e] at hl ⊢
    exact hr _ (List.getElem_mem hx) hl
  · have e : Go.Proofs.Ytkkbcpcihadkhaa.gd h.things x = tgD := by simp [Go.Proofs.Ytkkbcpcihadkhaa.gd, List.getElem?_eq_none (Nat.le_of_not_lt hx)]
    rw [e]; rfl
theorem t_freeze {h : Hs} (hr : Raw h) (who x : Int) : freezeOf (norm h) who x = nrm (freezeE h who x) := by
  simp only [freezeOf, freezeE, askOf_norm, norm_things, gd_norm, normT_list]
  by_cases ha : askOf h who [x] = 0
  · cases hl : (gd h.things x).list with
    | true =>
      have e : normT { gd h.things x with frozen := true } = { normT (gd h.things x) with frozen := true } := rfl
      have e2 := norm_setTg h x { gd h.things x with frozen := true }
      rw [e] at e2
      simp only [normT_owner, normT_list, normT_word, normT_items, hl] at e2
      simp [ha, nrm, e2]
    | false =>
      have e : setTg h x ⟨(gd h.things x).owner, false, (gd h.things x).word, (gd h.things x).items, false⟩ = h := by
        refine setTg_same _ ?_
        have := hr.gd hl
        cases hg : gd h.things x; rw [hg] at this hl; simp at this hl; simp [this, hl]
      simp [ha, nrm, e]
  · simp [ha, nrm]
theorem shbl_norm {h : Hs} (hok : Hok h) {x : Nat} (hx : x < h.things.length) : shbl (norm h).things x = shblE h.things x := by
  rw [shblE, ← own_reachE hok hx, shbl, norm_things, reachA_norm, ownA, List.all_filter]
  have : (fun y => !(notSh (h.things.map normT) y && (gd (h.things.map normT) y).list && !(gd (h.things.map normT) y).frozen)) = fun y => !notSh h.things y || !softB h.things y := by
    funext y
    rw [notSh_norm, gd_norm, softB]
    cases hs : notSh h.things y with
    | false => simp
    | true =>
      have : ¬ (gd h.things y).owner = -1 := by simpa [notSh] using hs
      simp [normT, this]
  rw [this]
theorem paint_norm {f g : Tg → Tg} {l m : List Int} {L : List Tg} (h : ∀ i : Nat, (hi : i < L.length) → (if (i : Int) ∈ l then f (normT L[i]) else normT L[i]) = normT (if (i : Int) ∈ m then g L[i] else L[i])) : paint f l (L.map normT) = (paint g m L).map normT := by
  refine List.ext_getElem (by simp) fun i h1 h2 => ?_
  have hi : i < L.length := by simpa using h1
  rw [List.getElem_map, paint_at (by simpa using hi), paint_at hi, List.getElem_map]
  exact h i hi
theorem stateOf_ask {h : Hs} {who x : Int} (hr : isR h who = true) (ht : isT h x = true) : askOf h who [x] = stateOf h who [x] := by simp [askOf, stateOf, hr, ht]
theorem t_share {h : Hs} (hok : Hok h) (who x : Int) : shareOf (norm h) who x = nrm (shareE h who x) := by
  cases hr : isR h who with
  | false => simp [shareOf, shareE, hr, nrm, askOf]
  | true =>
    cases ht : isT h x with
    | false => simp [shareOf, shareE, hr, ht, nrm, askOf]
    | true =>
      obtain ⟨k, rfl, hk⟩ := isT_nat ht
      have hs := shbl_norm hok hk
      simp only [shareOf, shareE, isR_norm, isT_norm, hr, ht, hs, askOf_norm, stateOf_ask hr ht, norm_things, gd_norm, normT_owner]
      rw [← norm_things, hs]
      by_cases h1 : ¬ (gd h.things k).owner = -2 ∧ shblE h.things k = false
      · simp [h1, nrm]
      · by_cases h2 : stateOf h who [(k : Int)] = 0
        · simp only [h1, h2, nrm]
          simp only [reachA_norm, norm_things]
          have : paint shareF (reachA h.things k) (h.things.map normT) = (paint (ownF (-1)) (reachE h.things false k) h.things).map normT := by
            refine paint_norm fun i hi => ?_
            rw [← own_reachE hok hk, ownA]
            have hg : gd h.things (i : Int) = h.things[i] := gd_at hi
            by_cases hm : (i : Int) ∈ reachA h.things k
            · by_cases ho : h.things[i].owner = -1
              · simp [hm, List.mem_filter, notSh, ho, hi, shareF, normT]
              · simp [hm, List.mem_filter, notSh, ho, hi, shareF, normT, ownF]
            · simp [hm, List.mem_filter]
          simp [this, norm]
        · simp [h1, h2, nrm]
theorem sends_split (h : Hs) (who to x : Int) (h1 : isR h who = true) (h2 : isR h to = true) (h3 : isT h x = true) : sendsOf h who to x = if ¬ sendingE h who to x = 0 then sendingE h who to x else if 50 ≤ (gr h.rooms to).queue.length then 9 else 0 := by
  cases h4 : overB h who <;> cases h5 : overB h to <;> cases hs : seesB h who x <;> simp [sendsOf, sendingE, stateOf, h1, h2, h3, h4, h5, hs]
theorem t_move {h : Hs} (hok : Hok h) (who to x : Int) : moveOf (norm h) who to x = nrm (moveE h who to x) := by
  cases hr : isR h who with
  | false => simp [moveOf, moveE, hr, nrm, sendsOf]
  | true =>
    cases hr2 : isR h to with
    | false => simp [moveOf, moveE, hr, hr2, nrm, sendsOf]
    | true =>
      cases ht : isT h x with
      | false => simp [moveOf, moveE, hr, hr2, ht, nrm, sendsOf]
      | true =>
        obtain ⟨k, rfl, hk⟩ := isT_nat ht
        have hto := isR_nn hr2
        simp only [moveOf, moveE, isR_norm, isT_norm, hr, hr2, ht, tiedOf_norm, sendsOf_norm, norm_things, gd_norm, normT_owner, ownA_norm, own_reachE hok hk, sends_split h who to k hr hr2 ht]
        by_cases h1 : (gd h.things k).owner = who ∧ tiedOf h who (reachE h.things false k) = true
        · simp [h1, nrm]
        · by_cases h2 : sendingE h who to k = 0
          · by_cases h3 : 50 ≤ (gr h.rooms to).queue.length
            · simp [h1, h2, h3, nrm]
            · have : paint (ownF to) (reachE h.things false k) (h.things.map normT) = (paint (ownF to) (reachE h.things false k) h.things).map normT := by
                refine paint_norm fun i hi => ?_
                by_cases hm : (i : Int) ∈ reachE h.things false k
                · have hn : notSh h.things i = true := by rw [← own_reachE hok hk, ownA, List.mem_filter] at hm; exact hm.2
                  have ho : ¬ h.things[i].owner = -1 := by simpa [notSh, hi] using hn
                  have : ¬ to = -1 := by omega
                  simp [hm, ownF, normT, ho, this]
                · simp [hm]
              simp [h1, h2, h3, nrm, put_with, this]
          · simp [h1, h2, nrm]
theorem t_take (h : Hs) (who : Int) : takeOf (norm h) who = nrm (takeOf h who) := by
  simp only [takeOf, askOf_norm, norm_rooms]
  split
  · rfl
  · split <;> rfl
theorem t_over (h : Hs) (who : Int) : overOf (norm h) who = nrm (overOf h who) := by
  simp only [overOf, askOf_norm, norm_rooms]
  split
  · rfl
  · rename_i ha
    have hr := isR_nn (askOf_r (by simpa using ha)).1
    simp only [nrm, norm, List.map_map]
    congr 2
    refine List.map_congr_left fun t _ => ?_
    by_cases ho : t.owner = who
    · have : ¬ t.owner = -1 := by omega
      have h2 : ¬ who = -1 := by omega
      simp [Function.comp, goneF, normT, ho, h2]
    · simp [Function.comp, goneF, normT, ho]
def sendE (h : Hs) (who to x : Int) : Hs × Int × Int :=
  if isR h who = false ∨ isR h to = false ∨ isT h x = false then (h, 0, 1)
  else if ¬ sendingE h who to x = 0 then (h, 0, sendingE h who to x)
  else if 50 ≤ (gr h.rooms to).queue.length ∨ 400 < h.things.length + (reachE h.things false x).length then (h, 0, 9) else
  (putOf { h with things := h.things ++ (reachE h.things false x).map fun y => copyT (reachE h.things false x) h.things.length to (gd h.things y) } to (if reachE h.things false x = [] then x else (h.things.length : Int)),
    if reachE h.things false x = [] then x else (h.things.length : Int), 0)
theorem reachE_head {L : List Tg} {x : Nat} (hx : x < L.length) : reachE L false x = [] ∨ ∃ l, reachE L false x = (x : Int) :: l := by
  obtain ⟨n, hn⟩ : ∃ n, L.length = n + 1 := ⟨L.length - 1, by omega⟩
  rw [reachE, hn]
  by_cases ho : okF L false x = true
  · right
    obtain ⟨e, he, _⟩ : ∃ e, (itemsOf L x).foldl (rV (okF L false) L n) [(x : Int)] = [(x : Int)] ++ e ∧ True := by
      have : ∀ (l : List Int) (o : List Int), ∃ e, l.foldl (rV (okF L false) L n) o = o ++ e := by
        intro l
        induction l with
        | nil => exact fun o => ⟨[], by simp⟩
        | cons a l ih =>
          intro o
          obtain ⟨e1, h1, _⟩ := rV_ext (ok := okF L false) (L := L) (Q := fun _ => True) (fun _ _ _ _ => trivial) n o a trivial
          obtain ⟨e2, h2⟩ := ih (o ++ e1)
          exact ⟨e1 ++ e2, by rw [List.foldl_cons, h1, h2, List.append_assoc]⟩
      obtain ⟨e, h⟩ := this (itemsOf L x) [(x : Int)]
      exact ⟨e, h, trivial⟩
    exact ⟨e, by simp [rV, ho]; simpa using he⟩
  · left
    simp [rV, ho]
theorem place_head {L : List Tg} {x : Nat} (hx : x < L.length) (first : Int) : placeOf (reachE L false x) first x = if reachE L false x = [] then (x : Int) else first := by
  rcases reachE_head hx with h | ⟨l, h⟩
  · simp [h, placeOf, ixE, ixF]
  · simp [h, placeOf, ixE, ixF, List.findIdx_cons]
theorem t_send {h : Hs} (hok : Hok h) (who to x : Int) : sendOf (norm h) who to x = nrm (sendE h who to x) := by
  cases hr : isR h who with
  | false => simp [sendOf, sendE, hr, nrm, sendsOf]
  | true =>
    cases hr2 : isR h to with
    | false => simp [sendOf, sendE, hr, hr2, nrm, sendsOf]
    | true =>
      cases ht : isT h x with
      | false => simp [sendOf, sendE, hr, hr2, ht, nrm, sendsOf]
      | true =>
        obtain ⟨k, rfl, hk⟩ := isT_nat ht
        have hto := isR_nn hr2
        simp only [sendOf, sendE, hr, hr2, ht, sendsOf_norm, norm_things, List.length_map, ownA_norm, own_reachE hok hk, place_head hk, sends_split h who to k hr hr2 ht]
        by_cases h2 : sendingE h who to k = 0
        · by_cases h3 : 50 ≤ (gr h.rooms to).queue.length
          · simp [h2, h3, nrm]
          · by_cases h4 : 400 < h.things.length + (reachE h.things false k).length
            · simp [h2, h3, h4, nrm]
            · simp only [h2, h3, h4, nrm]
              have : ∀ y ∈ reachE h.things false k, copyT (reachE h.things false k) h.things.length to (gd (h.things.map normT) y) = normT (copyT (reachE h.things false k) h.things.length to (gd h.things y)) := by
                intro y hy
                have hn : notSh h.things y = true := by rw [← own_reachE hok hk, ownA, List.mem_filter] at hy; exact hy.2
                have ho : ¬ (gd h.things y).owner = -1 := by simpa [notSh] using hn
                have : ¬ to = -1 := by omega
                simp [copyT, normT, ho, this]
              have e : (reachE h.things false k).map (fun y => copyT (reachE h.things false k) h.things.length to (gd (h.things.map normT) y)) = ((reachE h.things false k).map fun y => copyT (reachE h.things false k) h.things.length to (gd h.things y)).map normT := by
                rw [List.map_map]; exact List.map_congr_left this
              simp only [gd_norm, List.map_map] at e
              simp [put_with, e]
        · simp [h2, nrm]
structure Good (h : Hs) : Prop where
  ok : Hok h
  raw : Raw h
theorem gd_in {L : List Tg} {z : Int} (hz : 0 ≤ z ∧ z < L.length) : ∃ k : Nat, z = k ∧ ∃ hk : k < L.length, gd L z = L[k] := by
  have hk : z.toNat < L.length := by omega
  exact ⟨z.toNat, by omega, hk, by simp [gd, hk]⟩
theorem gd_app {L T : List Tg} {z : Int} (hz : 0 ≤ z ∧ z < L.length) : gd (L ++ T) z = gd L z := by
  simp only [gd, List.getD_eq_getElem?_getD, List.getElem?_append_left (show z.toNat < L.length by omega)]
theorem Hok.app {h : Hs} (k : Hok h) {T : List Tg} (hl : h.things.length + T.length ≤ 400) (hT : ∀ t ∈ T, t.items.length ≤ 50 ∧ (-2 ≤ t.owner ∧ t.owner < h.rooms.length) ∧ (t.list = false → t.items = []) ∧ ∀ z ∈ t.items, (0 ≤ z ∧ z < (h.things ++ T).length) ∧ ((gd (h.things ++ T) z).owner = t.owner ∨ (gd (h.things ++ T) z).owner = -1)) :
    Hok { h with things := h.things ++ T } := by
  refine ⟨k.rooms, by simpa using hl, fun t ht => ?_, fun t ht z hz => ?_, fun r hr => ⟨(k.queues r hr).1, fun z hz => ?_⟩, fun t ht => ?_, fun t ht => ?_, fun t ht z hz => ?_⟩
  · exact (List.mem_append.1 ht).elim (k.few t) fun h => (hT t h).1
  · rcases List.mem_append.1 ht with h1 | h1
    · have := k.items t h1 z hz; simp only [List.length_append]; omega
    · exact ((hT t h1).2.2.2 z hz).1
  · have := (k.queues r hr).2 z hz; simp only [List.length_append]; omega
  · exact (List.mem_append.1 ht).elim (k.owners t) fun h => (hT t h).2.1
  · exact (List.mem_append.1 ht).elim (k.leaves t) fun h => (hT t h).2.2.1
  · rcases List.mem_append.1 ht with h1 | h1
    · have h2 := k.items t h1 z hz
      have h3 := k.apart t h1 z hz
      have e := gd_app (T := T) h2
      rw [gd, gd] at e
      simp only [e]; exact h3
    · exact ((hT t h1).2.2.2 z hz).2
theorem Hok.remap {h : Hs} (k : Hok h) (L : List Tg) (hl : L.length = h.things.length) (h1 : ∀ i : Nat, (hi : i < L.length) → (L[i].items = (h.things[i]'(hl ▸ hi)).items ∧ L[i].list = (h.things[i]'(hl ▸ hi)).list) ∧ (-2 ≤ L[i].owner ∧ L[i].owner < h.rooms.length))
    (h2 : ∀ i : Nat, (hi : i < L.length) → ∀ z : Nat, (hz : z < L.length) → (z : Int) ∈ L[i].items → (L[z].owner = L[i].owner ∨ L[z].owner = -1)) : Hok { h with things := L } := by
  refine ⟨k.rooms, by simpa [hl] using k.things, fun t ht => ?_, fun t ht z hz => ?_, fun r hr => ⟨(k.queues r hr).1, fun z hz => ?_⟩, fun t ht => ?_, fun t ht hli => ?_, fun t ht z hz => ?_⟩
  · obtain ⟨i, hi, rfl⟩ := List.getElem_of_mem ht
    rw [(h1 i hi).1.1]; exact k.few _ (List.getElem_mem _)
  · obtain ⟨i, hi, rfl⟩ := List.getElem_of_mem ht
    rw [(h1 i hi).1.1] at hz; simp only [hl]; exact k.items _ (List.getElem_mem _) z hz
  · simp only [hl]; exact (k.queues r hr).2 z hz
  · obtain ⟨i, hi, rfl⟩ := List.getElem_of_mem ht
    exact (h1 i hi).2
  · obtain ⟨i, hi, rfl⟩ := List.getElem_of_mem ht
    rw [(h1 i hi).1.2] at hli; rw [(h1 i hi).1.1]; exact k.leaves _ (List.getElem_mem _) hli
  · obtain ⟨i, hi, rfl⟩ := List.getElem_of_mem ht
    have hv : 0 ≤ z ∧ z < L.length := by
      have := hz
      rw [(h1 i hi).1.1] at this; simp only [hl]; exact k.items _ (List.getElem_mem _) z this
    obtain ⟨y, rfl, hy, e⟩ := gd_in hv
    rw [gd] at e
    simp only [e]
    exact h2 i hi y hy hz
theorem Hok.upd {h : Hs} (k : Hok h) {x : Nat} (hx : x < h.things.length) (t : Tg) (ho : t.owner = h.things[x].owner) (hf : t.items.length ≤ 50) (hli : t.list = false → t.items = []) (hv : ∀ z ∈ t.items, (0 ≤ z ∧ z < h.things.length) ∧ ((gd h.things z).owner = t.owner ∨ (gd h.things z).owner = -1)) : Hok (setTg h x t) := by
  have go : ∀ z : Int, ((h.things.set x t).getD z.toNat tgD).owner = (gd h.things z).owner := by
    intro z
    simp only [gd, List.getD_eq_getElem?_getD, List.getElem?_set]
    split
    · rename_i e
      have e' : z.toNat = x := by omega
      simp [hx, ho, e']
    · rfl
  refine ⟨k.rooms, by simpa [setTg] using k.things, fun u hu => ?_, fun u hu z hz => ?_, fun r hr => ⟨(k.queues r hr).1, fun z hz => ?_⟩, fun u hu => ?_, fun u hu hl => ?_, fun u hu z hz => ?_⟩
  · rcases List.mem_or_eq_of_mem_set hu with h1 | rfl
    · exact k.few u h1
    · exact hf
  · simp only [setTg, List.length_set]
    rcases List.mem_or_eq_of_mem_set hu with h1 | rfl
    · exact k.items u h1 z hz
    · exact (hv z hz).1
  · simp only [setTg, List.length_set]; exact (k.queues r hr).2 z hz
  · rcases List.mem_or_eq_of_mem_set hu with h1 | rfl
    · exact k.owners u h1
    · rw [ho]; exact k.owners _ (List.getElem_mem hx)
  · rcases List.mem_or_eq_of_mem_set hu with h1 | rfl
    · exact k.leaves u h1 hl
    · exact hli hl
  · simp only [setTg, Int.toNat_natCast, go]
    rcases List.mem_or_eq_of_mem_set hu with h1 | rfl
    · have := k.apart u h1 z hz; rw [gd]; exact this
    · exact (hv z hz).2
theorem Hok.reroom {h : Hs} (k : Hok h) (rs : List Rm) (hl : rs.length = h.rooms.length) (hq : ∀ r ∈ rs, r.queue.length ≤ 50 ∧ ∀ z ∈ r.queue, 0 ≤ z ∧ z < h.things.length) : Hok { h with rooms := rs } :=
  ⟨by simpa [hl] using k.rooms, k.things, k.few, k.items, hq, fun t ht => by simp only [hl]; exact k.owners t ht, k.leaves, k.apart⟩
theorem Hok.put {h : Hs} (k : Hok h) (to x : Int) (hq : (gr h.rooms to).queue.length < 50) (hx : 0 ≤ x ∧ x < h.things.length) : Hok (putOf h to x) := by
  refine k.reroom _ (by simp) fun r hr => ?_
  rcases List.mem_or_eq_of_mem_set hr with h1 | rfl
  · exact k.queues r h1
  · refine ⟨by simp only [List.length_append, List.length_singleton]; omega, fun z hz => ?_⟩
    rcases List.mem_append.1 hz with hz | hz
    · by_cases h2 : to.toNat < h.rooms.length
      · have e : gr h.rooms to = h.rooms[to.toNat] := by simp [gr, h2]
        rw [e] at hz
        exact (k.queues _ (List.getElem_mem h2)).2 z hz
      · have e : gr h.rooms to = ⟨[], false⟩ := by simp [gr, List.getElem?_eq_none (Nat.le_of_not_lt h2)]
        rw [e] at hz; cases hz
    · rw [List.mem_singleton] at hz; subst hz; exact hx
theorem ask_seen {h : Hs} {who x : Int} {l : List Int} (ha : askOf h who l = 0) (hx : x ∈ l) : (0 ≤ x ∧ x < h.things.length) ∧ ((gd h.things x).owner = who ∨ (gd h.things x).owner = -1) := by
  obtain ⟨_, h1, _, h2⟩ := askOf_r ha
  refine ⟨?_, ?_⟩
  · have := List.all_eq_true.1 h1 x hx; simpa [isT] using this
  · have := List.all_eq_true.1 h2 x hx; simpa [seesB_gd] using this
theorem good_add {h : Hs} (g : Good h) {who : Int} (hw : 0 ≤ who ∧ who < h.rooms.length) (l : Bool) (w : Int) (its : List Int) (hf : its.length ≤ 50) (hli : l = false → its = []) (hv : ∀ z ∈ its, (0 ≤ z ∧ z < h.things.length) ∧ ((gd h.things z).owner = who ∨ (gd h.things z).owner = -1)) : Good (addOf h ⟨who, l, w, its, false⟩).1 := by
  rw [addOf]
  split
  · exact g
  · rename_i hn
    refine ⟨g.ok.app (by simp; omega) fun t ht => ?_, fun t ht hl => ?_⟩
    · rw [List.mem_singleton] at ht; subst ht
      refine ⟨hf, by simp only; omega, hli, fun z hz => ⟨?_, ?_⟩⟩
      · have := (hv z hz).1; simp only [List.length_append]; omega
      · rw [gd_app (hv z hz).1]; exact (hv z hz).2
    · rcases List.mem_append.1 ht with h1 | h1
      · exact g.raw t h1 hl
      · rw [List.mem_singleton] at h1; subst h1; rfl
theorem g_leaf {h : Hs} (g : Good h) (who w : Int) : Good (leafOf h who w).1 := by
  rw [leafOf]
  split
  · exact g
  · split
    · exact g
    · rename_i h1 h2
      exact good_add g (isR_nn (askOf_r (by simpa using h2)).1) _ _ _ (by simp) (fun _ => rfl) (by simp)
theorem g_list {h : Hs} (g : Good h) (who : Int) (l : List Int) : Good (listOf h who l).1 := by
  rw [listOf]
  split
  · exact g
  · split
    · exact g
    · rename_i h1 h2
      have ha : askOf h who l = 0 := by simpa using h2
      exact good_add g (isR_nn (askOf_r ha).1) _ _ _ (by omega) (fun h => by cases h) (fun z hz => ask_seen ha hz)
theorem Raw.upd {h : Hs} (r : Raw h) (x : Int) (t : Tg) (ht : t.list = false → t.frozen = false) : Raw (setTg h x t) := by
  intro u hu hl
  rcases List.mem_or_eq_of_mem_set hu with h1 | rfl
  · exact r u h1 hl
  · exact ht hl
theorem g_set {h : Hs} (g : Good h) (who x i z : Int) : Good (setE h who x i z).1 := by
  rw [setE]
  split
  · exact g
  · split
    · exact g
    · split
      · exact g
      · rename_i h1 h2 h3
        have ha : askOf h who [x, z] = 0 := by simpa using h2
        obtain ⟨k, rfl, hk, e⟩ := gd_in (ask_seen ha (x := x) (by simp)).1
        have hs := (ask_seen ha (x := (k : Int)) (by simp)).2
        have hz := ask_seen ha (x := z) (by simp)
        have hns : ¬ (gd h.things k).owner = -1 := by
          intro hc
          simp [frozeE, notSh] at h3
          exact h3.2 hc
        have ho : (gd h.things k).owner = who := hs.resolve_right hns
        have hli : h.things[k].list = true := by
          cases hb : h.things[k].list with
          | true => rfl
          | false => exact absurd (by simp [indexOf, e, hb, isT, hk]) h1
        refine ⟨g.ok.upd hk _ (by rw [e]) (by simp only [List.length_set, e]; exact g.ok.few _ (List.getElem_mem hk)) (by simp [e, hli]) fun y hy => ?_, g.raw.upd _ _ (by simp [e, hli])⟩
        simp only at hy ⊢
        rcases List.mem_or_eq_of_mem_set hy with h4 | rfl
        · rw [e] at h4 ⊢
          exact ⟨g.ok.items _ (List.getElem_mem hk) y h4, g.ok.apart _ (List.getElem_mem hk) y h4⟩
        · rw [ho]; exact hz
theorem g_push {h : Hs} (g : Good h) (who x z : Int) : Good (pushE h who x z).1 := by
  rw [pushE]
  split
  · exact g
  · split
    · exact g
    · split
      · exact g
      · split
        · exact g
        · rename_i h1 h2 h3 h5
          have ha : askOf h who [x, z] = 0 := by simpa using h2
          obtain ⟨k, rfl, hk, e⟩ := gd_in (ask_seen ha (x := x) (by simp)).1
          have hs := (ask_seen ha (x := (k : Int)) (by simp)).2
          have hz := ask_seen ha (x := z) (by simp)
          have hns : ¬ (gd h.things k).owner = -1 := by
            intro hc
            simp [frozeE, notSh] at h3
            exact h3.2 hc
          have ho : (gd h.things k).owner = who := hs.resolve_right hns
          have hli : h.things[k].list = true := by
            cases hb : h.things[k].list with
            | true => rfl
            | false => exact absurd ⟨by simp [isT, hk], by rw [e]; exact hb⟩ h1
          refine ⟨g.ok.upd hk _ (by rw [e]) (by simp only [List.length_append, List.length_singleton]; omega) (by simp [e, hli]) fun y hy => ?_, g.raw.upd _ _ (by simp [e, hli])⟩
          simp only at hy ⊢
          rcases List.mem_append.1 hy with h4 | h4
          · rw [e] at h4 ⊢
            exact ⟨g.ok.items _ (List.getElem_mem hk) y h4, g.ok.apart _ (List.getElem_mem hk) y h4⟩
          · rw [List.mem_singleton] at h4; subst h4
            rw [ho]; exact hz
theorem g_freeze {h : Hs} (g : Good h) (who x : Int) : Good (freezeE h who x).1 := by
  rw [freezeE]
  split
  · rename_i ha
    obtain ⟨k, rfl, hk, e⟩ := gd_in (ask_seen ha (x := x) (by simp)).1
    refine ⟨g.ok.upd hk _ (by rw [e]) (by simp only [e]; exact g.ok.few _ (List.getElem_mem hk)) (by simp only [e]; exact g.ok.leaves _ (List.getElem_mem hk)) fun y hy => ?_, g.raw.upd _ _ (by simp)⟩
    simp only [e] at hy ⊢
    exact ⟨g.ok.items _ (List.getElem_mem hk) y hy, g.ok.apart _ (List.getElem_mem hk) y hy⟩
  · exact g
theorem reach_seen {h : Hs} (k : Hok h) {who : Int} {x : Int} (hx : 0 ≤ x ∧ x < h.things.length) (hs : (gd h.things x).owner = who ∨ (gd h.things x).owner = -1) : ∀ z ∈ reachA h.things x, (0 ≤ z ∧ z < h.things.length) ∧ ((gd h.things z).owner = who ∨ (gd h.things z).owner = -1) := by
  refine reachA_ind (Q := fun z => (0 ≤ z ∧ z < h.things.length) ∧ ((gd h.things z).owner = who ∨ (gd h.things z).owner = -1)) (fun y hy z hz => ?_) ⟨hx, hs⟩
  obtain ⟨j, rfl, hj, e⟩ := gd_in hy.1
  have hz' : z ∈ h.things[j].items := by rw [itemsOf_gd, e] at hz; exact hz
  have h1 := k.items _ (List.getElem_mem hj) z hz'
  have h2 := k.apart _ (List.getElem_mem hj) z hz'
  rw [e] at hy
  refine ⟨h1, ?_⟩
  rw [gd]
  rcases h2 with h2 | h2
  · rw [h2]; exact hy.2
  · exact .inr h2
theorem own_seen {h : Hs} (k : Hok h) {who : Int} {x : Nat} (hx : x < h.things.length) (hs : (gd h.things x).owner = who ∨ (gd h.things x).owner = -1) : ∀ z ∈ reachE h.things false x, (0 ≤ z ∧ z < h.things.length) ∧ (gd h.things z).owner = who := by
  intro z hz
  rw [← own_reachE k hx, ownA, List.mem_filter] at hz
  have := reach_seen k ⟨by omega, by omega⟩ hs z hz.1
  refine ⟨this.1, this.2.resolve_right ?_⟩
  simpa [notSh] using hz.2
theorem own_items {h : Hs} (k : Hok h) {x : Nat} (hx : x < h.things.length) {y : Nat} (hy : y < h.things.length) (hm : (y : Int) ∈ reachE h.things false x) : ∀ z ∈ h.things[y].items, z ∈ reachE h.things false x ∨ (gd h.things z).owner = -1 := by
  intro z hz
  rw [← own_reachE k hx, ownA, List.mem_filter] at hm ⊢
  have h1 := reachA_closed k.items (x := (x : Int)) ⟨by omega, by omega⟩ hm.1 z (by rw [itemsOf_gd, gd_at hy]; exact hz)
  by_cases ho : (gd h.things z).owner = -1
  · exact .inr ho
  · exact .inl ⟨h1, by simp [notSh, ho]⟩
theorem Raw.paint {h : Hs} (r : Raw h) (o : Int) (l : List Int) : Raw { h with things := paint (ownF o) l h.things } := by
  intro t ht hl
  obtain ⟨i, hi, rfl⟩ := List.getElem_of_mem ht
  simp only [paint_len] at hi
  rw [paint_at hi] at hl ⊢
  split at hl
  · rename_i hm; rw [if_pos hm]; exact r h.things[i] (List.getElem_mem hi) hl
  · rename_i hm; rw [if_neg hm]; exact r _ (List.getElem_mem hi) hl
theorem paint_own {o : Int} {l : List Int} {L : List Tg} {i : Nat} (hi : i < (paint (ownF o) l L).length) : ((paint (ownF o) l L)[i].items = (L[i]'(by simpa using hi)).items ∧ (paint (ownF o) l L)[i].list = (L[i]'(by simpa using hi)).list) ∧ (paint (ownF o) l L)[i].owner = if (i : Int) ∈ l then o else (L[i]'(by simpa using hi)).owner := by
  have h := paint_at (f := ownF o) (l := l) (L := L) (i := i) (by simpa using hi)
  rw [h]
  split <;> simp [ownF]
theorem g_share {h : Hs} (g : Good h) (who x : Int) : Good (shareE h who x).1 := by
  rw [shareE]
  split
  · exact g
  · split
    · exact g
    · rename_i h1 h2
      have ht : isT h x = true := by
        cases hb : isT h x with
        | true => rfl
        | false => exact absurd (.inr (.inl hb)) h1
      obtain ⟨k, rfl, hk⟩ := isT_nat ht
      refine ⟨g.ok.remap _ (by simp) (fun i hi => ?_) (fun i hi z hz hm => ?_), g.raw.paint _ _⟩
      · have hp := paint_own hi
        refine ⟨hp.1, ?_⟩
        rw [hp.2]
        have := g.ok.owners _ (List.getElem_mem (show i < h.things.length by simpa using hi))
        split <;> omega
      · have hi' : i < h.things.length := by simpa using hi
        have hz' : z < h.things.length := by simpa using hz
        rw [(paint_own hi).2, (paint_own hz).2]
        rw [(paint_own hi).1.1] at hm
        have ha := g.ok.apart _ (List.getElem_mem hi') _ hm
        have hgz : (h.things.getD (z : Int).toNat tgD) = h.things[z] := gd_at hz'
        rw [hgz] at ha
        by_cases h3 : (z : Int) ∈ reachE h.things false k
        · rw [if_pos h3]; exact .inr rfl
        · rw [if_neg h3]
          by_cases h4 : (i : Int) ∈ reachE h.things false k
          · have := own_items g.ok hk hi' h4 _ hm
            rw [gd_at hz'] at this
            exact .inr (this.resolve_left h3)
          · rw [if_neg h4]; exact ha
theorem sending_seen {h : Hs} {who to x : Int} (hs : sendingE h who to x = 0) : (gd h.things x).owner = who ∨ (gd h.things x).owner = -1 := by
  simp only [sendingE, stateOf] at hs
  split at hs
  · cases hs
  · split at hs
    · cases hs
    · split at hs
      · cases hs
      · rename_i h3
        rcases Classical.em ((gd h.things x).owner = who) with h4 | h4
        · exact .inl h4
        · right; simp [seesB_gd, h4] at h3; exact h3
theorem g_move {h : Hs} (g : Good h) (who to x : Int) : Good (moveE h who to x).1 := by
  rw [moveE]
  split
  · exact g
  · split
    · exact g
    · split
      · exact g
      · split
        · exact g
        · rename_i h1 h2 h3 h4
          have ht : isT h x = true := by
            cases hb : isT h x with
            | true => rfl
            | false => exact absurd (.inr (.inr hb)) h1
          have hto : isR h to = true := by
            cases hb : isR h to with
            | true => rfl
            | false => exact absurd (.inr (.inl hb)) h1
          have hto' := isR_nn hto
          obtain ⟨k, rfl, hk⟩ := isT_nat ht
          have hseen := sending_seen (by simpa using h3)
          have hown := own_seen g.ok hk hseen
          have hok2 : Hok { h with things := paint (ownF to) (reachE h.things false k) h.things } := by
            refine g.ok.remap _ (by simp) (fun i hi => ?_) (fun i hi z hz hm => ?_)
            · have hp := paint_own hi
              refine ⟨hp.1, ?_⟩
              rw [hp.2]
              have := g.ok.owners _ (List.getElem_mem (show i < h.things.length by simpa using hi))
              split <;> omega
            · have hi' : i < h.things.length := by simpa using hi
              have hz' : z < h.things.length := by simpa using hz
              rw [(paint_own hi).2, (paint_own hz).2]
              rw [(paint_own hi).1.1] at hm
              have ha := g.ok.apart _ (List.getElem_mem hi') _ hm
              have hgz : (h.things.getD (z : Int).toNat tgD) = h.things[z] := gd_at hz'
              rw [hgz] at ha
              by_cases h5 : (i : Int) ∈ reachE h.things false k
              · rw [if_pos h5]
                have := own_items g.ok hk hi' h5 _ hm
                rw [gd_at hz'] at this
                rcases this with h6 | h6
                · rw [if_pos h6]; exact .inl rfl
                · rw [if_neg, h6]; exact .inr rfl
                  intro h7
                  have := (hown _ h7).2
                  rw [← own_reachE g.ok hk, ownA, List.mem_filter] at h7
                  have h8 := h7.2
                  simp [notSh, hz', h6] at h8
              · rw [if_neg h5]
                by_cases h6 : (z : Int) ∈ reachE h.things false k
                · exfalso
                  have hoz := (hown _ h6).2
                  rw [gd_at hz'] at hoz
                  have hnz : ¬ h.things[z].owner = -1 := by
                    rw [← own_reachE g.ok hk, ownA, List.mem_filter] at h6
                    have h8 := h6.2
                    simpa [notSh, hz'] using h8
                  have hoi : h.things[i].owner = who := by rw [← ha.resolve_right hnz]; exact hoz
                  have hkw : (gd h.things k).owner = who := by
                    refine hseen.resolve_right fun hc => ?_
                    have h9 := hk
                    rw [← own_reachE g.ok hk, ownA, List.mem_filter] at h6
                    have := reach_seen g.ok (who := -1) (x := (k : Int)) ⟨by omega, by omega⟩ (.inl hc) _ h6.1
                    rw [gd_at hz'] at this
                    exact hnz (this.2.elim id id)
                  refine h2 ⟨hkw, ?_⟩
                  simp only [tiedOf, Bool.or_eq_true]
                  left
                  refine List.any_eq_true.2 ⟨i, List.mem_range.2 hi', ?_⟩
                  simp only [tiedAt, gd_at hi', hoi, Bool.and_eq_true]
                  refine ⟨⟨by simp, ?_⟩, ?_⟩
                  · simp only [hasN, Bool.not_eq_true', List.any_eq_false, decide_eq_true_eq]
                    exact fun a ha e => h5 (by rw [← e]; exact ha)
                  · refine List.any_eq_true.2 ⟨_, hm, ?_⟩
                    simp [hasN, h6]
                · rw [if_neg h6]; exact ha
          refine ⟨hok2.put to k (by simp only; omega) (by simp only [paint_len]; omega), fun t ht => ?_⟩
          exact g.raw.paint to _ t ht
theorem g_take {h : Hs} (g : Good h) (who : Int) : Good (takeOf h who).1 := by
  rw [takeOf]
  split
  · exact g
  · rename_i ha
    have hr := isR_nn (askOf_r (by simpa using ha)).1
    split
    · exact g
    · rename_i x q hq
      refine ⟨g.ok.reroom _ (by simp) fun r hr' => ?_, g.raw⟩
      rcases List.mem_or_eq_of_mem_set hr' with h1 | rfl
      · exact g.ok.queues r h1
      · have hw : who.toNat < h.rooms.length := by omega
        have e : gr h.rooms who = h.rooms[who.toNat] := by simp [gr, hw]
        have := g.ok.queues _ (List.getElem_mem hw)
        rw [← e, hq] at this
        exact ⟨by simp only; have := this.1; simp at this; omega, fun z hz => this.2 z (by simp [hz])⟩
theorem g_over {h : Hs} (g : Good h) (who : Int) : Good (overOf h who).1 := by
  rw [overOf]
  split
  · exact g
  · rename_i ha
    have hr := isR_nn (askOf_r (by simpa using ha)).1
    have h1 : Hok { h with things := h.things.map (goneF who) } := by
      refine g.ok.remap _ (by simp) (fun i hi => ?_) (fun i hi z hz hm => ?_)
      · have hi' : i < h.things.length := by simpa using hi
        have := g.ok.owners _ (List.getElem_mem hi')
        simp only [List.getElem_map, goneF]
        split
        · exact ⟨⟨rfl, rfl⟩, by simp only; omega⟩
        · exact ⟨⟨rfl, rfl⟩, this⟩
      · have hi' : i < h.things.length := by simpa using hi
        have hz' : z < h.things.length := by simpa using hz
        have hm' : (z : Int) ∈ h.things[i].items := by
          simp only [List.getElem_map, goneF] at hm; split at hm <;> exact hm
        have ha := g.ok.apart _ (List.getElem_mem hi') _ hm'
        have hgz : (h.things.getD (z : Int).toNat tgD) = h.things[z] := gd_at hz'
        rw [hgz] at ha
        simp only [List.getElem_map, goneF]
        rcases ha with ha | ha
        · left; rw [ha]; split <;> simp [ha]
        · right; rw [if_neg (by omega)]; exact ha
    refine ⟨h1.reroom _ (by simp) fun r hr' => ?_, fun t ht hl => ?_⟩
    · rcases List.mem_or_eq_of_mem_set hr' with h2 | rfl
      · have := g.ok.queues r h2; simpa using this
      · simp
    · obtain ⟨u, hu, rfl⟩ := List.mem_map.1 ht
      simp only [goneF] at hl ⊢
      split at hl <;> rename_i hc
      · rw [if_pos hc]; exact g.raw u hu hl
      · rw [if_neg hc]; exact g.raw u hu hl
theorem gd_app2 {L T : List Tg} {n : Nat} (hn : n < T.length) : gd (L ++ T) ((L.length : Int) + n) = T[n] := by
  have e : ((L.length : Int) + n).toNat = L.length + n := by omega
  simp only [gd, e, List.getD_eq_getElem?_getD, List.getElem?_append_right (Nat.le_add_right _ _), Nat.add_sub_cancel_left, List.getElem?_eq_getElem hn, Option.getD_some]
theorem ixE_mem {l : List Int} {z : Int} (h : z ∈ l) : ∃ n : Nat, ixE l z = n ∧ ∃ hn : n < l.length, l[n] = z := by
  have ha : l.any (fun x => decide (x = z)) = true := List.any_eq_true.2 ⟨z, h, by simp⟩
  have hn : l.findIdx (fun x => decide (x = z)) < l.length := List.findIdx_lt_length_of_exists ⟨z, h, by simp⟩
  refine ⟨_, by rw [ixE, ixF, if_pos ha], hn, ?_⟩
  simpa using List.findIdx_getElem (w := hn)
theorem ixE_out {l : List Int} {z : Int} (h : z ∉ l) : ixE l z = -1 := by
  have ha : ¬ l.any (fun x => decide (x = z)) = true := fun hc => by
    obtain ⟨y, hy, e⟩ := List.any_eq_true.1 hc
    simp at e; subst e; exact h hy
  rw [ixE, ixF, if_neg ha]
theorem g_send {h : Hs} (g : Good h) (who to x : Int) : Good (sendE h who to x).1 := by
  rw [sendE]
  split
  · exact g
  · split
    · exact g
    · split
      · exact g
      · rename_i h1 h2 h3
        have ht : isT h x = true := by
          cases hb : isT h x with
          | true => rfl
          | false => exact absurd (.inr (.inr hb)) h1
        have hto : isR h to = true := by
          cases hb : isR h to with
          | true => rfl
          | false => exact absurd (.inr (.inl hb)) h1
        have hto' := isR_nn hto
        obtain ⟨k, rfl, hk⟩ := isT_nat ht
        have hseen := sending_seen (by simpa using h2)
        have hown := own_seen g.ok hk hseen
        obtain ⟨L, hL⟩ : ∃ L, L = reachE h.things false k := ⟨_, rfl⟩
        have hit : ∀ y : Nat, (hy : y < h.things.length) → (y : Int) ∈ L → ∀ z ∈ h.things[y].items, z ∈ L ∨ (gd h.things z).owner = -1 := fun y hy hm => by rw [hL] at hm ⊢; exact own_items g.ok hk hy hm
        rw [← hL] at hown h3 ⊢
        have hsz : h.things.length + L.length ≤ 400 := by omega
        have hok2 : Hok { h with things := h.things ++ L.map fun y => copyT L h.things.length to (gd h.things y) } := by
          refine g.ok.app (by simpa using hsz) fun t ht => ?_
          obtain ⟨y, hy, rfl⟩ := List.mem_map.1 ht
          obtain ⟨j, rfl, hj, e⟩ := gd_in (hown y hy).1
          rw [e]
          refine ⟨by simp only [copyT, List.length_map]; exact g.ok.few _ (List.getElem_mem hj), by simp only [copyT]; omega, fun hl => by simp only [copyT] at hl ⊢; rw [g.ok.leaves _ (List.getElem_mem hj) hl]; rfl, fun z hz => ?_⟩
          simp only [copyT, List.mem_map] at hz
          obtain ⟨u, hu, rfl⟩ := hz
          by_cases hm : u ∈ L
          · obtain ⟨n, hn, hn', _⟩ := ixE_mem hm
            have hp : placeOf L h.things.length u = (h.things.length : Int) + n := by rw [placeOf, hn, if_pos (by omega)]
            rw [hp, gd_app2 (by simpa using hn')]
            refine ⟨by simp only [List.length_append, List.length_map]; omega, .inl ?_⟩
            simp [copyT]
          · have hp : placeOf L h.things.length u = u := by rw [placeOf, ixE_out hm]; rfl
            have hv := g.ok.items _ (List.getElem_mem hj) u hu
            rw [hp, gd_app hv]
            exact ⟨by simp only [List.length_append, List.length_map]; omega, .inr ((hit j hj hy u hu).resolve_left hm)⟩
        refine ⟨hok2.put to _ (by simp only; omega) ?_, fun t ht hl => ?_⟩
        · simp only [List.length_append, List.length_map]
          split
          · omega
          · rename_i hne
            have : 0 < L.length := List.length_pos_iff.2 hne
            omega
        · rcases List.mem_append.1 ht with h4 | h4
          · exact g.raw t h4 hl
          · obtain ⟨y, hy, rfl⟩ := List.mem_map.1 h4
            exact g.raw.gd hl
def Live (h : Hs) : Prop := ∀ t ∈ h.things, 0 ≤ t.owner → overB h t.owner = false
theorem overB_gr (h : Hs) (w : Int) : overB h w = (gr h.rooms w).over := rfl
theorem over_setq (l : List Rm) (i : Int) (q : List Int) (w : Int) : (gr (l.set i.toNat { gr l i with queue := q }) w).over = (gr l w).over := by
  simp only [gr, List.getD_eq_getElem?_getD, List.getElem?_set]
  by_cases e : i.toNat = w.toNat
  · rw [if_pos e]
    by_cases h : i.toNat < l.length
    · rw [if_pos h, e]; rfl
    · rw [if_neg h, ← e, List.getElem?_eq_none (Nat.le_of_not_lt h)]
  · rw [if_neg e]
theorem over_put (h : Hs) (to x w : Int) : overB (putOf h to x) w = overB h w := over_setq _ _ _ _
theorem Live.of {h : Hs} (l : Live h) {L : List Tg} {rs : List Rm} (hr : ∀ w, overB ⟨rs, L⟩ w = overB h w) (hL : ∀ t ∈ L, (∃ u ∈ h.things, u.owner = t.owner) ∨ (0 ≤ t.owner → overB h t.owner = false)) : Live ⟨rs, L⟩ := by
  intro t ht h0
  rw [hr]
  rcases hL t ht with ⟨u, hu, e⟩ | h
  · rw [← e] at h0 ⊢; exact l u hu h0
  · exact h h0
theorem l_add {h : Hs} (l : Live h) {t : Tg} (ht : overB h t.owner = false) : Live (addOf h t).1 := by
  rw [addOf]
  split
  · exact l
  · refine l.of (fun _ => rfl) fun u hu => ?_
    rcases List.mem_append.1 hu with h1 | h1
    · exact .inl ⟨u, h1, rfl⟩
    · rw [List.mem_singleton] at h1; subst h1; exact .inr fun _ => ht
theorem l_leaf {h : Hs} (l : Live h) (who w : Int) : Live (leafOf h who w).1 := by
  rw [leafOf]
  split
  · exact l
  · split
    · exact l
    · rename_i h1 h2
      exact l_add l (askOf_r (by simpa using h2)).2.2.1
theorem l_list {h : Hs} (l : Live h) (who : Int) (ls : List Int) : Live (listOf h who ls).1 := by
  rw [listOf]
  split
  · exact l
  · split
    · exact l
    · rename_i h1 h2
      exact l_add l (askOf_r (by simpa using h2)).2.2.1
theorem l_tg {h : Hs} (l : Live h) {x : Int} (hx : 0 ≤ x ∧ x < h.things.length) (t : Tg) (ho : t.owner = (gd h.things x).owner) : Live (setTg h x t) := by
  obtain ⟨k, rfl, hk, e⟩ := gd_in hx
  refine l.of (fun _ => rfl) fun u hu => .inl ?_
  rcases List.mem_or_eq_of_mem_set hu with h1 | rfl
  · exact ⟨u, h1, rfl⟩
  · exact ⟨h.things[k], List.getElem_mem hk, by rw [ho, e]⟩
theorem l_set {h : Hs} (l : Live h) (who x i z : Int) : Live (setE h who x i z).1 := by
  rw [setE]
  split
  · exact l
  · split
    · exact l
    · split
      · exact l
      · rename_i h1 h2 h3
        exact l_tg l (ask_seen (by simpa using h2) (x := x) (by simp)).1 _ rfl
theorem l_push {h : Hs} (l : Live h) (who x z : Int) : Live (pushE h who x z).1 := by
  rw [pushE]
  split
  · exact l
  · split
    · exact l
    · split
      · exact l
      · split
        · exact l
        · rename_i h1 h2 h3 h4
          exact l_tg l (ask_seen (by simpa using h2) (x := x) (by simp)).1 _ rfl
theorem l_freeze {h : Hs} (l : Live h) (who x : Int) : Live (freezeE h who x).1 := by
  rw [freezeE]
  split
  · rename_i ha
    exact l_tg l (ask_seen ha (x := x) (by simp)).1 _ rfl
  · exact l
theorem l_paint {h : Hs} (l : Live h) {o : Int} (ho : 0 ≤ o → overB h o = false) (m : List Int) : Live { h with things := paint (ownF o) m h.things } := by
  refine l.of (fun _ => rfl) fun u hu => ?_
  obtain ⟨i, hi, rfl⟩ := List.getElem_of_mem hu
  have hp := (paint_own hi).2
  split at hp
  · right; rw [hp]; exact ho
  · left; exact ⟨_, List.getElem_mem (by simpa using hi), hp.symm⟩
theorem l_share {h : Hs} (l : Live h) (who x : Int) : Live (shareE h who x).1 := by
  rw [shareE]
  split
  · exact l
  · split
    · exact l
    · exact l_paint l (fun h => by omega) _
theorem sending_over {h : Hs} {who to x : Int} (hs : sendingE h who to x = 0) : overB h to = false ∧ overB h who = false := by
  simp only [sendingE, stateOf] at hs
  split at hs
  · cases hs
  · split at hs
    · cases hs
    · rename_i h1 h2
      exact ⟨by simpa using h1, by simpa using h2⟩
theorem l_put {h : Hs} (l : Live h) (to x : Int) : Live (putOf h to x) := l.of (fun w => over_put h to x w) fun u hu => .inl ⟨u, hu, rfl⟩
theorem l_move {h : Hs} (l : Live h) (who to x : Int) : Live (moveE h who to x).1 := by
  rw [moveE]
  split
  · exact l
  · split
    · exact l
    · split
      · exact l
      · split
        · exact l
        · rename_i h1 h2 h3 h4
          exact l_put (l_paint l (fun _ => (sending_over (by simpa using h3)).1) _) _ _
theorem l_take {h : Hs} (l : Live h) (who : Int) : Live (takeOf h who).1 := by
  rw [takeOf]
  split
  · exact l
  · split
    · exact l
    · exact l.of (fun w => over_setq _ _ _ _) fun u hu => .inl ⟨u, hu, rfl⟩
theorem l_over {h : Hs} (l : Live h) (who : Int) : Live (overOf h who).1 := by
  rw [overOf]
  split
  · exact l
  · rename_i ha
    have hr := isR_nn (askOf_r (by simpa using ha)).1
    intro t ht h0
    obtain ⟨u, hu, rfl⟩ := List.mem_map.1 ht
    simp only [goneF] at h0 ⊢
    by_cases ho : u.owner = who
    · simp [ho] at h0
    · rw [if_neg ho] at h0 ⊢
      have := l u hu h0
      rw [overB_gr] at this ⊢
      simp only [gr, List.getD_eq_getElem?_getD, List.getElem?_set] at this ⊢
      rw [if_neg (by omega)]; exact this
theorem l_send {h : Hs} (l : Live h) (who to x : Int) : Live (sendE h who to x).1 := by
  rw [sendE]
  split
  · exact l
  · split
    · exact l
    · split
      · exact l
      · rename_i h1 h2 h3
        refine l_put (h := { h with things := _ }) ?_ _ _
        refine l.of (rs := h.rooms) (fun _ => rfl) fun u hu => ?_
        rcases List.mem_append.1 hu with h4 | h4
        · exact .inl ⟨u, h4, rfl⟩
        · obtain ⟨y, hy, rfl⟩ := List.mem_map.1 h4
          have h5 : sendingE h who to x = 0 := by simpa using h2
          exact .inr fun _ => (sending_over h5).1
structure Fine (n : Nat) (h : Hs) : Prop where
  good : Good h
  live : Live h
  rooms : h.rooms.length = n
theorem rooms_add (h : Hs) (t : Tg) : (addOf h t).1.rooms = h.rooms := by rw [addOf]; split <;> rfl
theorem f_leaf {n : Nat} {h : Hs} (f : Fine n h) (who w : Int) : Fine n (leafOf h who w).1 := ⟨g_leaf f.good _ _, l_leaf f.live _ _, by
  rw [leafOf]; split
  · exact f.rooms
  · split
    · exact f.rooms
    · rw [rooms_add]; exact f.rooms⟩
theorem f_list {n : Nat} {h : Hs} (f : Fine n h) (who : Int) (l : List Int) : Fine n (listOf h who l).1 := ⟨g_list f.good _ _, l_list f.live _ _, by
  rw [listOf]; split
  · exact f.rooms
  · split
    · exact f.rooms
    · rw [rooms_add]; exact f.rooms⟩
theorem f_set {n : Nat} {h : Hs} (f : Fine n h) (who x i z : Int) : Fine n (setE h who x i z).1 := ⟨g_set f.good _ _ _ _, l_set f.live _ _ _ _, by
  rw [setE]; repeat' split
  all_goals exact f.rooms⟩
theorem f_push {n : Nat} {h : Hs} (f : Fine n h) (who x z : Int) : Fine n (pushE h who x z).1 := ⟨g_push f.good _ _ _, l_push f.live _ _ _, by
  rw [pushE]; repeat' split
  all_goals exact f.rooms⟩
theorem f_freeze {n : Nat} {h : Hs} (f : Fine n h) (who x : Int) : Fine n (freezeE h who x).1 := ⟨g_freeze f.good _ _, l_freeze f.live _ _, by
  rw [freezeE]; repeat' split
  all_goals exact f.rooms⟩
theorem f_share {n : Nat} {h : Hs} (f : Fine n h) (who x : Int) : Fine n (shareE h who x).1 := ⟨g_share f.good _ _, l_share f.live _ _, by
  rw [shareE]; repeat' split
  all_goals exact f.rooms⟩
theorem f_send {n : Nat} {h : Hs} (f : Fine n h) (who to x : Int) : Fine n (sendE h who to x).1 := ⟨g_send f.good _ _ _, l_send f.live _ _ _, by
  rw [sendE]; repeat' split
  all_goals first | exact f.rooms | (simp only [putOf, setRm, List.length_set]; exact f.rooms)⟩
theorem f_move {n : Nat} {h : Hs} (f : Fine n h) (who to x : Int) : Fine n (moveE h who to x).1 := ⟨g_move f.good _ _ _, l_move f.live _ _ _, by
  rw [moveE]; repeat' split
  all_goals first | exact f.rooms | (simp only [putOf, setRm, List.length_set]; exact f.rooms)⟩
theorem f_take {n : Nat} {h : Hs} (f : Fine n h) (who : Int) : Fine n (takeOf h who).1 := ⟨g_take f.good _, l_take f.live _, by
  rw [takeOf]; repeat' split
  all_goals first | exact f.rooms | (simp only [setRm, List.length_set]; exact f.rooms)⟩
theorem f_over {n : Nat} {h : Hs} (f : Fine n h) (who : Int) : Fine n (overOf h who).1 := ⟨g_over f.good _, l_over f.live _, by
  rw [overOf]; repeat' split
  all_goals first | exact f.rooms | (simp only [List.length_set]; exact f.rooms)⟩
def bornE (n : Nat) : Hs := ⟨List.replicate n ⟨[], false⟩, []⟩
theorem f_born {n : Nat} (h : n ≤ 8) : Fine n (bornE n) := by
  refine ⟨⟨⟨by simpa [bornE] using h, by simp [bornE], by simp [bornE], fun t ht => by simp [bornE] at ht, fun r hr => ?_, by simp [bornE], by simp [bornE], by simp [bornE]⟩, fun t ht => by simp [bornE] at ht⟩, fun t ht => by simp [bornE] at ht, by simp [bornE]⟩
  simp only [bornE, List.mem_replicate] at hr
  rw [hr.2]; simp
structure Ld where
  d : Int
  who : Int
  a : Int
  b : Int
  c : Int
  l : List Int
def doE (h : Hs) (d : Ld) : Hs × Int × Int :=
  if d.d = 0 then leafOf h d.who d.a else if d.d = 1 then listOf h d.who d.l
  else if d.d = 2 then ((setE h d.who d.a d.b d.c).1, 0, (setE h d.who d.a d.b d.c).2)
  else if d.d = 3 then ((pushE h d.who d.a d.b).1, 0, (pushE h d.who d.a d.b).2)
  else if d.d = 4 then ((freezeE h d.who d.a).1, 0, (freezeE h d.who d.a).2)
  else if d.d = 5 then ((shareE h d.who d.a).1, 0, (shareE h d.who d.a).2)
  else if d.d = 6 then sendE h d.who d.a d.b
  else if d.d = 7 then ((moveE h d.who d.a d.b).1, 0, (moveE h d.who d.a d.b).2)
  else if d.d = 8 then takeOf h d.who
  else if d.d = 9 then ((overOf h d.who).1, 0, (overOf h d.who).2)
  else (h, 0, 0)
theorem f_do {n : Nat} {h : Hs} (f : Fine n h) (d : Ld) : Fine n (doE h d).1 := by
  rw [doE]
  by_cases h0 : d.d = 0
  · rw [if_pos h0]; exact f_leaf f _ _
  rw [if_neg h0]
  by_cases h1 : d.d = 1
  · rw [if_pos h1]; exact f_list f _ _
  rw [if_neg h1]
  by_cases h2 : d.d = 2
  · rw [if_pos h2]; exact f_set f _ _ _ _
  rw [if_neg h2]
  by_cases h3 : d.d = 3
  · rw [if_pos h3]; exact f_push f _ _ _
  rw [if_neg h3]
  by_cases h4 : d.d = 4
  · rw [if_pos h4]; exact f_freeze f _ _
  rw [if_neg h4]
  by_cases h5 : d.d = 5
  · rw [if_pos h5]; exact f_share f _ _
  rw [if_neg h5]
  by_cases h6 : d.d = 6
  · rw [if_pos h6]; exact f_send f _ _ _
  rw [if_neg h6]
  by_cases h7 : d.d = 7
  · rw [if_pos h7]; exact f_move f _ _ _
  rw [if_neg h7]
  by_cases h8 : d.d = 8
  · rw [if_pos h8]; exact f_take f _
  rw [if_neg h8]
  by_cases h9 : d.d = 9
  · rw [if_pos h9]; exact f_over f _
  rw [if_neg h9]; exact f
structure Stay (h h' : Hs) : Prop where
  more : h.things.length ≤ h'.things.length
  rooms : h'.rooms.length = h.rooms.length
  same : ∀ y, 0 ≤ y ∧ y < (h.things.length : Int) → (gd h.things y).owner = -1 → (gd h'.things y).owner = -1 ∧ (gd h'.things y).items = (gd h.things y).items ∧ (gd h'.things y).list = (gd h.things y).list ∧ (gd h'.things y).word = (gd h.things y).word
theorem Stay.rfl {h : Hs} : Stay h h := ⟨Nat.le_refl _, Eq.refl _, fun _ _ ho => ⟨ho, Eq.refl _, Eq.refl _, Eq.refl _⟩⟩
theorem Stay.trans {a b c : Hs} (h : Stay a b) (k : Stay b c) : Stay a c := ⟨Nat.le_trans h.more k.more, k.rooms.trans h.rooms, fun y hy ho => by
  obtain ⟨h1, h2, h3, h4⟩ := h.same y hy ho
  have := h.more
  obtain ⟨k1, k2, k3, k4⟩ := k.same y (by omega) h1
  exact ⟨k1, k2.trans h2, k3.trans h3, k4.trans h4⟩⟩
end Go.Proofs.Ytkkbcpcihadkhaa
