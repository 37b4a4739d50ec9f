/- The program copies a book whose units were lifted out. -/
import Derived.Test.YtipokdbfdingmaaK7
import Derived.Test.YtipokdbfdingmaaRows
import Derived.WalkKit
import Derived.ProofKit
import Derived.OpenShut
import Derived.ShutString
import Derived.ChangeOld
import Derived.Carry
namespace Go.Proofs.Ytipokdbfdingmaa
set_option linter.all false
open Go.Vc Go.Proofs
set_option linter.unusedSimpArgs false
set_option linter.unusedVariables false
set_option maxRecDepth 100000
set_option maxHeartbeats 4000000
attribute [local irreducible] CallW EqK
def key4 (n : Int) : ByteArray := keyOf (fitN n 4 : Nat) ⟨#[]⟩
theorem key4_ok (n : Int) : isKeyB (key4 n) = true := by
 have h4 := fitN_lt n (n := 4) (by omega)
 have h5 : fitN ((fitN n 4 : Nat) : Int) 5 = fitN n 4 := by
  generalize fitN n 4 = j at *
  have : j = 0 ∨ j = 1 ∨ j = 2 ∨ j = 3 := by omega
  rcases this with rfl | rfl | rfl | rfl <;> decide
 rw [key4, keyOf, h5]
 generalize fitN n 4 = j at *
 have : j = 0 ∨ j = 1 ∨ j = 2 ∨ j = 3 := by omega
 rcases this with rfl | rfl | rfl | rfl <;> decide
theorem move_who {g : Gb} {k : ByteArray} (h : isKeyB k = true) : (moveOf g k).2 = (whoOf g k, 0) := by rw [moveOf, if_neg (by simp [h])]; rfl
theorem hasB_at {g : Gb} {u : Nat} (h : u < g.units.length) : hasB g u = true := by simp [hasB]; omega
end Go.Proofs.Ytipokdbfdingmaa

/- Books of grounds, plainly: no unit that is up relies on what moved. -/
namespace Go.Proofs.Ytipokdbfdingmaa
set_option linter.all false
open Go.Vc Go.Proofs
def key4k (k : Nat) : ByteArray := keyOf (k : Nat) ⟨#[]⟩
structure En (i : Nat) (g : Gb) (mv : List Int) (rl : List (List Int)) : Prop where
  len : rl.length = g.units.length
  lei : g.units.length ≤ i
  mlen : mv.length = 4
  rlen : ∀ r ∈ rl, r.length = 4
  mle : ∀ m ∈ mv, 0 ≤ m ∧ m ≤ i
  law : ∀ (n : Nat) (u : Un) (r : List Int), g.units[n]? = some u → rl[n]? = some r → u.up = true → ∀ (k : Nat) (m v : Int), mv[k]? = some m → r[k]? = some v → v = -1 ∨ (v = m ∧ key4k k ∈ u.keys)
theorem En.succ {i : Nat} {g : Gb} {mv : List Int} {rl : List (List Int)} (e : En i g mv rl) : En (i + 1) g mv rl :=
  ⟨e.len, by have := e.lei; omega, e.mlen, e.rlen, fun m hm => by have := e.mle m hm; omega, e.law⟩
theorem En.keep {i : Nat} {g g' : Gb} {mv : List Int} {rl : List (List Int)} (e : En i g mv rl) (hl : g'.units.length = g.units.length)
    (h : ∀ (n : Nat) (u' : Un), g'.units[n]? = some u' → u'.up = true → ∃ u : Un, g.units[n]? = some u ∧ u.up = true ∧ ∀ x ∈ u.keys, x ∈ u'.keys) : En i g' mv rl :=
  ⟨by rw [e.len, hl], by rw [hl]; exact e.lei, e.mlen, e.rlen, e.mle, fun n u' r h1 h2 h3 k m v h4 h5 => by
    obtain ⟨u, h6, h7, h8⟩ := h n u' h1 h3
    rcases e.law n u r h6 h2 h7 k m v h4 h5 with h9 | ⟨h9, h10⟩
    · exact .inl h9
    · exact .inr ⟨h9, h8 _ h10⟩⟩
theorem setU_at {g : Gb} {u n : Nat} {x : Un} (h : u < g.units.length) : (setU g u x).units[n]? = if u = n then some x else g.units[n]? := by
  rw [setU]
  simp only [Int.toNat_natCast]
  rw [List.getElem?_set]
  by_cases e : u = n
  · subst e; simp [h]
  · simp [e]
theorem unit_one {g : Gb} {s : ByteArray} (hs : isKeyB s = true) (hl : g.units.length < 200) : unitOf g [s] = ({ g with units := g.units ++ [⟨true, [s], []⟩] }, (g.units.length : Int), 0) := by
  have h1 : keysS [s] = [s] := rfl
  have he : keysE [s] = 0 := by simp [keysE, hs, h1]
  rw [unitOf, if_neg (by simp [he]), if_neg (by omega), h1]
theorem En.unit {i : Nat} {g : Gb} {mv : List Int} {rl : List (List Int)} (e : En i g mv rl) {k : Nat} {m : Int} (hm : mv[k]? = some m) (hi : i < 200) {r : List Int} (hr : r.length = 4) (hrk : ∀ (j : Nat) (v : Int), r[j]? = some v → v = -1 ∨ (j = k ∧ v = m)) (hs : isKeyB (key4k k) = true) :
    En (i + 1) (unitOf g [key4k k]).1 mv (rl ++ [r]) := by
  rw [unit_one hs (by have := e.lei; omega)]
  refine ⟨by simp [e.len], by have := e.lei; simp; omega, e.mlen, fun x hx => ?_, fun x hx => by have := e.mle x hx; omega, fun n u r' h1 h2 h3 j m' v h4 h5 => ?_⟩
  · rcases List.mem_append.1 hx with h | h
    · exact e.rlen x h
    · rw [List.mem_singleton.1 h]; exact hr
  · rcases Nat.lt_or_ge n g.units.length with hn | hn
    · rw [List.getElem?_append_left hn] at h1
      rw [List.getElem?_append_left (by rw [e.len]; exact hn)] at h2
      exact e.law n u r' h1 h2 h3 j m' v h4 h5
    · rw [List.getElem?_append_right hn] at h1
      rw [List.getElem?_append_right (by rw [e.len]; exact hn), e.len] at h2
      have h0 : n - g.units.length = 0 := by
        have := (List.getElem?_eq_some_iff.1 h1).1
        simpa using this
      rw [h0, List.getElem?_cons_zero, Option.some.injEq] at h1 h2
      subst h1; subst h2
      rcases hrk j v h5 with h6 | ⟨rfl, h6⟩
      · exact .inl h6
      · rw [hm, Option.some.injEq] at h4
        exact .inr ⟨by rw [h6, h4], by simp⟩
theorem En.put {i : Nat} {g : Gb} {mv : List Int} {rl : List (List Int)} (e : En i g mv rl) {a : Nat} (ha : a < g.units.length) {x : Un} {r : List Int} (hr : r.length = 4)
    (h : ∀ (j : Nat) (m v : Int), mv[j]? = some m → r[j]? = some v → v = -1 ∨ (v = m ∧ key4k j ∈ x.keys)) : En (i + 1) (setU g a x) mv (rl.set a r) := by
  have hl : (setU g a x).units.length = g.units.length := by simp [setU]
  refine ⟨by rw [List.length_set, e.len, hl], by rw [hl]; have := e.lei; omega, e.mlen, fun y hy => ?_, fun y hy => by have := e.mle y hy; omega, fun n u r' h1 h2 h3 j m v h4 h5 => ?_⟩
  · rcases List.mem_or_eq_of_mem_set hy with h' | rfl
    · exact e.rlen y h'
    · exact hr
  · rw [setU_at ha] at h1
    by_cases en : a = n
    · subst en
      rw [if_pos rfl, Option.some.injEq] at h1
      rw [List.getElem?_set_self (by rw [e.len]; exact ha), Option.some.injEq] at h2
      subst h1; subst h2
      exact h j m v h4 h5
    · rw [if_neg en] at h1
      rw [List.getElem?_set_ne en] at h2
      exact e.law n u r' h1 h2 h3 j m v h4 h5
theorem En.rely {i : Nat} {g : Gb} {mv : List Int} {rl : List (List Int)} (e : En i g mv rl) {k : Nat} {m : Int} (hm : mv[k]? = some m) {a : Int} (ho : (relyOf g a (key4k k)).2 = 0) {r : List Int} (hr : rl[a.toNat]? = some r) :
    En (i + 1) (relyOf g a (key4k k)).1 mv (rl.set a.toNat (r.set k m)) := by
  unfold relyOf at ho ⊢
  split at ho
  · cases ho
  · rename_i h1
    obtain ⟨a, ha, rfl, hu, hmu⟩ := unOf_mem (g := g) (u := a) (by simpa using h1)
    split at ho
    · cases ho
    · rename_i h2
      split at ho
      · cases ho
      · rename_i h3
        have hup : g.units[a].up = true := by rw [← hu]; simpa using h3
        have hrl := e.rlen r (List.mem_of_getElem? hr)
        have hrow : ∀ x : Un, (∀ y ∈ g.units[a].keys, y ∈ x.keys) → key4k k ∈ x.keys → ∀ (j : Nat) (m' v : Int), mv[j]? = some m' → (r.set k m)[j]? = some v → v = -1 ∨ (v = m' ∧ key4k j ∈ x.keys) := fun x hx1 hx2 j m' v h4 h5 => by
          by_cases ej : k = j
          · subst ej
            rw [hm, Option.some.injEq] at h4
            rw [List.getElem?_set_self (by
              have := (List.getElem?_eq_some_iff.1 hm).1
              rw [e.mlen] at this; omega), Option.some.injEq] at h5
            exact .inr ⟨by rw [← h5, h4], hx2⟩
          · rw [List.getElem?_set_ne ej] at h5
            rcases e.law a g.units[a] r (List.getElem?_eq_getElem ha) hr hup j m' v h4 h5 with h6 | ⟨h6, h7⟩
            · exact .inl h6
            · exact .inr ⟨h6, hx1 _ h7⟩
        rw [if_neg h1, if_neg h2, if_neg h3]
        split
        · rename_i h4
          have hk : key4k k ∈ g.units[a].keys := by rw [← hu]; exact hasS_iff.1 h4
          have hg : setU g a g.units[a] = g := by
            rw [setU]; simp only [Int.toNat_natCast, List.set_getElem_self]
          have := e.put ha (x := g.units[a]) (r := r.set k m) (by rw [List.length_set]; exact hrl) (hrow _ (fun y hy => hy) hk)
          rw [hg] at this
          exact this
        · rename_i h4
          rw [if_neg h4] at ho
          split
          · rename_i h5
            rw [if_pos h5] at ho; cases ho
          · refine e.put ha (by rw [List.length_set]; exact hrl) (hrow _ (fun y hy => ?_) ?_)
            · rw [hu]; exact insS_mem.2 (.inr hy)
            · exact insS_mem.2 (.inl rfl)
theorem rely_no {g : Gb} {a : Int} {s : ByteArray} (h : ¬ (relyOf g a s).2 = 0) : (relyOf g a s).1 = g := by
  unfold relyOf at h ⊢
  repeat' split
  all_goals first | rfl | (exfalso; apply h; simp_all)
theorem rely_has {g : Gb} {a : Int} {s : ByteArray} (h : (relyOf g a s).2 = 0) : ∃ b : Nat, a = b ∧ b < g.units.length := by
  unfold relyOf at h
  split at h
  · cases h
  · rename_i h1
    obtain ⟨b, hb, rfl, _⟩ := unOf_mem (g := g) (u := a) (by simpa using h1)
    exact ⟨b, rfl, hb⟩
theorem En.into {i : Nat} {g : Gb} {mv : List Int} {rl : List (List Int)} (e : En i g mv rl) (a b : Int) : En (i + 1) (intoOf g a b).1 mv rl := by
  refine En.succ ?_
  unfold intoOf
  repeat' split
  all_goals try exact e
  rename_i h1 h2 h3 h4
  obtain ⟨u, hu, rfl, hun, _⟩ := unOf_mem (g := g) (u := a) (by simpa using fun h => h1 (.inl h))
  refine e.keep (by simp [setU]) fun n u' h5 h6 => ?_
  rw [setU_at hu] at h5
  by_cases en : u = n
  · subst en
    rw [if_pos rfl, Option.some.injEq] at h5
    subst h5
    exact ⟨g.units[u], List.getElem?_eq_getElem hu, by rw [← hun]; exact h6, by rw [hun]; exact fun _ h => h⟩
  · rw [if_neg en] at h5
    exact ⟨u', h5, h6, fun _ h => h⟩
theorem En.move {i : Nat} {g : Gb} {mv : List Int} {rl : List (List Int)} (e : En i g mv rl) {k : Nat} {m : Int} (hm : mv[k]? = some m) (hs : isKeyB (key4k k) = true) : En (i + 1) (moveOf g (key4k k)).1 (mv.set k (m + 1)) rl := by
  have hmg : (moveOf g (key4k k)).1.units = fallU g.units (relyB g.units (key4k k)) := by rw [moveOf, if_neg (by simp [hs])]; rfl
  have hl : (moveOf g (key4k k)).1.units.length = g.units.length := by rw [hmg]; simp
  refine ⟨by rw [hl, e.len], by rw [hl]; have := e.lei; omega, by rw [List.length_set, e.mlen], e.rlen, fun x hx => ?_, fun n u r h1 h2 h3 j m' v h4 h5 => ?_⟩
  · rcases List.mem_or_eq_of_mem_set hx with h | rfl
    · have := e.mle x h; omega
    · have := e.mle m (List.mem_of_getElem? hm); omega
  · rw [hmg, fallU_at] at h1
    cases hg : g.units[n]? with
    | none => rw [hg] at h1; cases h1
    | some w =>
      rw [hg, Option.map_some, Option.some.injEq] at h1
      split at h1
      · subst h1; cases h3
      · rename_i hr
        subst h1
        have hno : ¬ key4k k ∈ w.keys := fun hk => hr (rcB_iff.2 (.base ⟨w, hg, h3, hk⟩))
        by_cases ej : k = j
        · subst ej
          rcases e.law n w r hg h2 h3 k m v hm h5 with h6 | ⟨_, h7⟩
          · exact .inl h6
          · exact absurd h7 hno
        · rw [List.getElem?_set_ne ej] at h4
          exact e.law n w r hg h2 h3 j m' v h4 h5
theorem renew_has {g : Gb} {a : Int} {l : List ByteArray} (h : (renewOf g a l).2 = 0) : ∃ b : Nat, a = b ∧ b < g.units.length := by
  unfold renewOf at h
  split at h
  · cases h
  · rename_i h1
    obtain ⟨b, hb, rfl, _⟩ := unOf_mem (g := g) (u := a) (by simpa using h1)
    exact ⟨b, rfl, hb⟩
theorem renew_no {g : Gb} {a : Int} {l : List ByteArray} (h : ¬ (renewOf g a l).2 = 0) : (renewOf g a l).1 = g := by
  unfold renewOf at h ⊢
  repeat' split
  all_goals first | rfl | (exfalso; apply h; simp_all)
theorem En.renew {i : Nat} {g : Gb} {mv : List Int} {rl : List (List Int)} (e : En i g mv rl) {k : Nat} {m : Int} (hm : mv[k]? = some m) {a : Int} (ho : (renewOf g a [key4k k]).2 = 0) {r : List Int} (hr : r.length = 4) (hrk : ∀ (j : Nat) (v : Int), r[j]? = some v → v = -1 ∨ (j = k ∧ v = m)) :
    En (i + 1) (renewOf g a [key4k k]).1 mv (rl.set a.toNat r) := by
  obtain ⟨b, rfl, hb⟩ := renew_has ho
  have h1 : keysS [key4k k] = [key4k k] := rfl
  have hx : (renewOf g b [key4k k]).1 = setU g b { unOf g b with up := true, keys := keysS [key4k k] } := by
    unfold renewOf at ho ⊢
    repeat' split at ho
    all_goals first | (cases ho; done) | skip
    · rename_i hz _ _ _; simp_all
    · simp_all
  rw [hx]
  refine e.put hb hr fun j m' v h4 h5 => ?_
  rcases hrk j v h5 with h6 | ⟨rfl, h6⟩
  · exact .inl h6
  · rw [hm, Option.some.injEq] at h4
    exact .inr ⟨by rw [h6, h4], by rw [h1]; simp⟩
theorem en_born : En 0 bornB [0, 0, 0, 0] [] := ⟨rfl, by simp [bornB], rfl, by simp, by simp, by simp [bornB]⟩
end Go.Proofs.Ytipokdbfdingmaa

/- GroundEnough. -/
namespace Go.Proofs.Ytipokdbfdingmaa
set_option linter.all false
open Go.Vc Go.Proofs
set_option linter.unusedSimpArgs false
set_option linter.unusedVariables false
set_option maxRecDepth 100000
set_option maxHeartbeats 4000000
attribute [local irreducible] CallW EqK
def dRows (l : List (List Int)) : D := sq (l.map fun r => .agg (dInts r))
@[simp] theorem dRows_len (l : List (List Int)) : (dRows l).len = l.length := by simp [dRows]
@[simp] theorem dRows_nil : dRows [] = .nil := rfl
theorem dRows_nth {l : List (List Int)} {i : Nat} (h : i < l.length) : (dRows l).nth i = .agg (dInts l[i]) := by rw [dRows, sq_nth_lt (by simpa using h)]; simp
theorem dRows_set (l : List (List Int)) (i : Nat) (r : List Int) : (dRows l).setN i (.agg (dInts r)) = dRows (l.set i r) := by simp only [dRows, sq_setN, List.map_set]
theorem dRows_push (l : List (List Int)) (r : List Int) : (dRows l).app (.cons (.agg (dInts r)) .nil) = dRows (l ++ [r]) := by simp only [dRows, List.map_append, ← sq_app]; rfl
theorem dRows_mid (l : List (List Int)) : (dRows l).mid 0 l.length = dRows l := sq_mid_all _ _ (by simp)
theorem dRows_mid1 (l : List (List Int)) (r : List Int) : (dRows (l ++ [r])).mid 0 (l.length + 1) = dRows (l ++ [r]) := sq_mid_all _ _ (by simp)
theorem offs_ints : ∀ (l : List Int) (k : Nat), k ≤ l.length → (dInts l).offs k = k
 | _, 0, _ => by cases ‹List Int› <;> rfl
 | [], k + 1, h => by simp at h
 | a :: l, k + 1, h => by
  have ih := offs_ints l k (by simpa using h)
  have e : dInts (a :: l) = .cons (.val (.int .i64 a)) (dInts l) := rfl
  rw [e]
  show 1 + (dInts l).offs k = k + 1
  rw [ih]; omega
theorem width_ints : ∀ l : List Int, (dInts l).width = l.length
 | [] => rfl
 | a :: l => by
  have e : dInts (a :: l) = .cons (.val (.int .i64 a)) (dInts l) := rfl
  rw [e, List.length_cons, ← width_ints l]
  show 1 + (dInts l).width = _
  omega
theorem row4 (a b c d : Int) : dInts [a, b, c, d] = .cons (.val (.int .i64 a)) (.cons (.val (.int .i64 b)) (.cons (.val (.int .i64 c)) (.cons (.val (.int .i64 d)) .nil))) := rfl
theorem set_row (k : Nat) (m : Int) (j : Nat) (v : Int) (h : ([-1, -1, -1, -1].set k m : List Int)[j]? = some v) : v = -1 ∨ (j = k ∧ v = m) := by
 by_cases e : k = j
 ·subst e
  rcases Nat.lt_or_ge k 4 with h4 | h4
  ·rw [List.getElem?_set_self (by simpa using h4), Option.some.injEq] at h
   exact .inr ⟨rfl, h.symm⟩
  ·rw [List.getElem?_eq_none (by simpa using h4)] at h; cases h
 ·rw [List.getElem?_set_ne e] at h
  have hm := List.mem_of_getElem? h
  simp at hm
  exact .inl hm
theorem enough_ok (L : List Ld) (ex : Bool) : Meets Try.prog 3 [] (.cons (.imm 6 (dLds L) ex) .nil) fun av X κ => av = .val (.bool true) := by
 have h0000 : (.cons (.val (.int .i64 0)) (.cons (.val (.int .i64 0)) (.cons (.val (.int .i64 0)) (.cons (.val (.int .i64 0)) .nil))) : D) = dInts [0, 0, 0, 0] := rfl
 refine fb Try.func3 Try.ntmps3 [.tmp 2] fun w0 I0 F0 hF => ?_
 repeat first|refine n1 ?_|((first|refine rg 0 [0] [0] [] ?_|refine rg 1 [0] [0, 3] [] ?_);simp (maxSteps := 1000000) [hF])
 refine (new_ok).go [] (by simp (maxSteps := 1000000) [hF]) ?_;rintro av X κ ⟨rfl, rfl, rfl⟩;simp (maxSteps := 1000000) [hF]
 repeat first|refine n1 ?_|refine n2 ?_|refine n3 ?_|((first|refine rg 2 [0, 3] [0, 3, 23] [] ?_|refine rg 4 [0, 3] [0, 3, 4] [] ?_|refine rg 5 [0, 3, 4] [0, 3, 4, 5] [] ?_|refine rg 6 [0, 3, 4, 5] [0, 3, 4, 5, 6] [] ?_|refine nc ?_);simp (maxSteps := 1000000) [hF])
 refine VS.hold0 5 4 (by simp) ?_
 refine VS.pick [0, 3, 4, 5, 6] [0, 1, 2] (by simp [hF]) ?_;simp [hF]
 refine VS.rounds (fun m st => ∃ (i : Nat) (g : Gb) (mv : List Int) (rl : List (List Int)), i + m = L.length ∧ i ≤ 80 ∧ En i g mv rl ∧ Fb i g ∧ st = ⟨[(0, .imm 6 (dLds L) ex), (3, .ptr 0 [.d]), (4, .sub 1 [] 0 4 true), (5, .sub 2 [] 0 rl.length false), (6, avInt i)],
  [dBk g, .sl true () 1 (dInts mv), .sl true () 4 (dRows rl)], [], []⟩) ⟨L.length, 0, bornB, [0, 0, 0, 0], [], by omega, by omega, en_born, fb_born, by simp [dBk, h0000]⟩ ?_
 rintro m st ⟨i, g, mv, rl, hi, hi8, en, f, rfl⟩
 apply merged
 ·intro key
  repeat first|refine n1 ?_|(refine rg 7 [0, 3, 4, 5, 6] [0, 3, 4, 5, 6, 32] [(4, 29)] ?_;simp (maxSteps := 1000000) [hF])
  refine ⟨fun hlt => ?_, fun hge => ?_⟩
  rotate_left
  ·repeat first|refine n1 ?_|refine n7 ?_|(refine nc ?_;simp (maxSteps := 1000000) [hF])
   refine VS.pick [3, 4, 5] [0, 1, 2] (by simp [hF]) ?_;simp [hF]
   exact key ()
  ·repeat first|(refine nc ?_;simp (maxSteps := 1000000) [hF])
   refine ⟨fun h90 => ?_, fun h90 => ?_⟩
   rotate_left
   ·repeat first|refine n1 ?_|refine n7 ?_
    refine VS.pick [3, 4, 5] [0, 1, 2] (by simp [hF]) ?_;simp [hF]
    exact key ()
   ·have hlt' : i < L.length := by omega
    have hn1 := dLds_nth hlt'
    have hw : IntKind.i64.wrap ((i : Int) + 1) = (i + 1 : Nat) := by rw [IntWalk.i64_in _ (by omega)]; rfl
    generalize L[i] = d at *
    obtain ⟨h1, h2⟩ := fitN_eq d.n (n := 4) (by omega)
    have h1' : (IntKind.u64.wrap d.n).tmod 4 = (fitN d.n 4 : Int) := h1
    have w2 : IntKind.i64.wrap (fitN d.n 4 : Int) = fitN d.n 4 := IntWalk.i64_in _ (by omega)
    have hs : isKeyB (key4k (fitN d.n 4)) = true := key4_ok d.n
    generalize hkk : fitN d.n 4 = k at *
    have hkey : keyOf (k : Int) ⟨#[]⟩ = key4k k := rfl
    have b := f.bk
    have h1k : strs [key4k k] = .cons (.val (.string (key4k k))) .nil := rfl
    have hmk : k < mv.length := by rw [en.mlen]; exact h2
    have hmv := dInts_nth hmk
    have hmo : mv[k]? = some mv[k] := List.getElem?_eq_getElem hmk
    generalize mv[k] = mm at *
    repeat first|refine n1 ?_|refine n2 ?_|refine n3 ?_|((first|refine rg 9 [0, 3, 4, 5, 6] [0, 3, 4, 5, 6, 7] [] ?_|refine rg 10 [0, 3, 4, 5, 6, 7] [0, 3, 4, 5, 6, 7, 8] [] ?_|refine rg 11 [0, 3, 4, 5, 6, 7, 8] [0, 3, 4, 5, 6, 7, 8, 9] [] ?_);simp (maxSteps := 1000000) [hF, hn1, hlt', h1', w2])
    refine (key_ok k ⟨#[]⟩).go [] (by simp (maxSteps := 1000000) [hF, hkey]) ?_;rintro av X κ ⟨rfl, rfl, rfl⟩;simp (maxSteps := 1000000) [hF, hkey]
    have hki : (k : Int) < 4 := by omega
    have hmb := en.mle mm (List.mem_of_getElem? hmo)
    have c1 : (rl.length + 1) * 32 ≤ 140737488355328 := by have := en.len; have := en.lei; omega
    have c2 : rl.length ≤ 9223372036854775806 := by have := en.len; have := en.lei; omega
    have hm0 := dRows_mid rl
    have hgl := en.len
    have hrowl : ∀ (a : Nat) (h : a < g.units.length), ∃ r, rl[a]? = some r ∧ r.length = 4 ∧ (dRows rl).nth a = .agg (dInts r) := fun a h => by
     have ha : a < rl.length := by omega
     exact ⟨rl[a], List.getElem?_eq_getElem ha, en.rlen _ (List.getElem_mem ha), dRows_nth ha⟩
    by_cases h0 : d.d = 0
    ·as_aux_lemma =>
      have hu1 := unit_one hs (g := g) (by have := en.lei; omega)
      have f' := fb_do f ⟨0, 0, 0, key4k k, [key4k k]⟩
      rw [doG_0 rfl] at f'
      dsimp only at f'
      have en' := en.unit hmo (by omega) (r := [-1, -1, -1, -1].set k mm) (by simp) (set_row k mm) hs
      have hp := dRows_push rl ([-1, -1, -1, -1].set k mm)
      have hm1 := dRows_mid1 rl ([-1, -1, -1, -1].set k mm)
      rw [hu1] at en' f'
      dsimp only at en' f'
      repeat first|refine n1 ?_|refine n3 ?_|((first|refine rg 12 [0, 3, 4, 5, 6, 7, 8, 9] [0, 3, 4, 5, 6, 7, 8, 9, 47] [] ?_|refine rg 13 [0, 3, 4, 5, 6, 7, 8, 9, 47] [0, 3, 4, 5, 6, 7, 8, 9, 47, 48] [] ?_|refine rg 14 [0, 3, 4, 5, 6, 8, 9] [0, 3, 4, 5, 6, 8, 10, 11] [] ?_|refine nc ?_);simp (maxSteps := 1000000) [hF, h0])
      refine (unit_w g b true [key4k k] (by simp) (by simp)).go [(4, []), (0, [])] (by simp (maxSteps := 1000000) [hF, dBk, h1k, hu1, hgl]) ?_;rintro av X κ ⟨rfl, rfl, rfl⟩;simp (maxSteps := 1000000) [hF, dBk, h1k, hu1, hgl]
      clear hu1
      have hk4 : k = 0 ∨ k = 1 ∨ k = 2 ∨ k = 3 := by omega
      rcases hk4 with rfl | rfl | rfl | rfl
      all_goals simp only [List.set] at hp hm1 en'
      all_goals rw [row4] at hp
      all_goals rw [hgl] at hm0 hm1 c1 c2
      all_goals (repeat first|refine n1 ?_|refine n2 ?_|refine n4 ?_|refine n5 ?_|refine n6 ?_|((first|refine rg 8 [0, 3, 4, 5, 6] [0, 3, 4, 5, 6] [] ?_|refine rg 15 [0, 3, 4, 5, 6, 8, 10, 11] [0, 3, 4, 5, 6, 8, 64] [(2, 59)] ?_|refine rg 17 [0, 3, 4, 5, 6, 8] [0, 3, 4, 5, 6, 8, 12] [] ?_|refine rg 18 [0, 3, 4, 5, 6, 8, 12] [0, 3, 4, 5, 6, 12] [] ?_|refine rg 19 [0, 3, 4, 5, 6, 12] [0, 3, 4, 5, 6] [] ?_|refine nc ?_);simp (maxSteps := 1000000) [hF, hgl, hmv, hki, hp, hm0, hm1, c1, c2, hw]))
      all_goals (refine nextK.of [0, 3, 4, 5, 6] [0, 1, 2] (m - 1) (by omega) (by simp [hF]) ?_)
      all_goals exact ⟨i + 1, _, _, _, by omega, by omega, en', f', by simp [dBk, hgl]⟩
    by_cases h1d : d.d = 1
    ·as_aux_lemma =>
      have f' := fb_do f ⟨1, d.u, 0, key4k k, []⟩
      rw [doG_1 rfl] at f'
      dsimp only at f'
      repeat first|refine n1 ?_|refine n3 ?_|((first|refine rg 12 [0, 3, 4, 5, 6, 7, 8, 9] [0, 3, 4, 5, 6, 7, 8, 9, 47] [] ?_|refine rg 13 [0, 3, 4, 5, 6, 7, 8, 9, 47] [0, 3, 4, 5, 6, 7, 8, 9, 47, 48] [] ?_|refine rg 20 [0, 3, 4, 5, 6, 7, 8, 9, 47] [0, 3, 4, 5, 6, 7, 8, 9, 47, 76] [] ?_|refine rg 21 [0, 3, 4, 5, 6, 7, 8, 9] [0, 3, 4, 5, 6, 7, 8, 83] [] ?_|refine nc ?_);simp (maxSteps := 1000000) [hF, h0, h1d])
      by_cases ho : (relyOf g d.u (key4k k)).2 = 0
      ·obtain ⟨a, ha, hal⟩ := rely_has ho
       obtain ⟨r, hr1, hr2, hr3⟩ := hrowl a hal
       have en' := en.rely hmo ho (r := r) (by rw [ha]; exact hr1)
       rw [ha] at en' f' ho
       simp only [Int.toNat_natCast] at en'
       have hkr : k < r.length := by omega
       have hrk := dInts_nth hkr
       have hoff := offs_ints r k (by omega)
       have hset : (dRows rl).setN a (.agg ((dInts r).setN k (.val (.int .i64 mm)))) = dRows (rl.set a (r.set k mm)) := by rw [dInts_setN, dRows_set]
       have hset2 := dRows_set rl a (r.set k mm)
       have hai : (a : Int) < g.units.length := by omega
       refine (rely_c g b d.u (key4k k)).go [(0, [])] (by simp (maxSteps := 1000000) [hF, dBk, ha, ho]) ?_;rintro av X κ ⟨rfl, rfl, rfl⟩;simp (maxSteps := 1000000) [hF, dBk, ha, ho]
       repeat first|refine n4 ?_|refine n5 ?_|refine n6 ?_|((first|refine rg 8 [0, 3, 4, 5, 6] [0, 3, 4, 5, 6] [] ?_|(refine dr 22 0 [0, 3, 4, 5, 6, 7, 8] [0, 3, 4, 5, 6] [] [⟨0, 32, 19342813113834066795298816, 5⟩, ⟨0, 128, 38685626227668133590597632, 5⟩, ⟨2, 38685626227668133590597632, 77371252455336267181195264, 6⟩, ⟨0, 256, 154742504910672534362390528, 5⟩, ⟨0, 16, 309485009821345068724781056, 5⟩, ⟨0, 256, 618970019642690137449562112, 5⟩, ⟨48, 928455029464035206174343168, 1237940039285380274899124224, 5⟩, ⟨64, 1237940039285380274899124224, 2475880078570760549798248448, 6⟩, ⟨5, 96714065569170333976494080, 4951760157141521099596496896, 5⟩, ⟨511, 5106502662052193633958887424, 9903520314283042199192993792, 5⟩, ⟨767, 12379400392853802748991242240, 0, 0⟩] (.take 0 (.take 1 (.take 2 (.take 3 (.take 4 (.take 5 (.take 6 (.take 7 (.take 8 (.take 9 (.fork (.alt 10 (.done) (.nil))))))))))))) (.run [0, 1, 2, 3, 4, 5, 6, 7, 8, 9, 10] (.done)) ?_;simp only [drs])|refine nc ?_);simp (maxSteps := 1000000) [hF, ho, hmv, hki, hmk, ha, hr3, hal, hai, hgl, hrk, hoff, hr2, hset, hset2, h2, hw])
       (repeat' with_reducible refine And.intro ?_ ?_)
       all_goals (refine nextK.of [0, 3, 4, 5, 6] [0, 1, 2] (m - 1) (by omega) (by simp [hF]) ?_)
       all_goals exact ⟨i + 1, _, _, _, by omega, by omega, en', f', by simp [dBk, hset, hset2, hgl, hw]⟩
      ·have hno := rely_no ho
       rw [hno] at f'
       refine (rely_c g b d.u (key4k k)).go [(0, [])] (by simp (maxSteps := 1000000) [hF, dBk, ho, hno]) ?_;rintro av X κ ⟨rfl, rfl, rfl⟩;simp (maxSteps := 1000000) [hF, dBk, ho, hno]
       repeat first|refine n2 ?_|refine n4 ?_|refine n5 ?_|refine n6 ?_|((first|refine rg 8 [0, 3, 4, 5, 6] [0, 3, 4, 5, 6] [] ?_|refine nc ?_);simp (maxSteps := 1000000) [hF, ho, hw])
       refine nextK.of [0, 3, 4, 5, 6] [0, 1, 2] (m - 1) (by omega) (by simp [hF]) ?_
       exact ⟨i + 1, _, _, _, by omega, by omega, en.succ, f', by simp [dBk]⟩
    by_cases h2d : d.d = 2
    ·as_aux_lemma =>
      have f' := fb_do f ⟨2, d.u, d.o, key4k k, []⟩
      rw [doG_2 rfl] at f'
      dsimp only at f'
      repeat first|refine n1 ?_|refine n3 ?_|((first|refine rg 12 [0, 3, 4, 5, 6, 7, 8, 9] [0, 3, 4, 5, 6, 7, 8, 9, 47] [] ?_|refine rg 13 [0, 3, 4, 5, 6, 7, 8, 9, 47] [0, 3, 4, 5, 6, 7, 8, 9, 47, 48] [] ?_|refine rg 20 [0, 3, 4, 5, 6, 7, 8, 9, 47] [0, 3, 4, 5, 6, 7, 8, 9, 47, 76] [] ?_|refine rg 23 [0, 3, 4, 5, 6, 7, 8, 9, 47] [0, 3, 4, 5, 6, 7, 8, 9, 47, 94] [] ?_|refine rg 24 [0, 3, 4, 5, 6, 7] [0, 3, 4, 5, 6] [] ?_|refine nc ?_);simp (maxSteps := 1000000) [hF, h0, h1d, h2d])
      refine (into_c g b d.u d.o).go [(0, [])] (by simp (maxSteps := 1000000) [hF, dBk]) ?_;rintro av X κ ⟨rfl, rfl, rfl⟩;simp (maxSteps := 1000000) [hF, dBk]
      repeat first|refine n4 ?_|refine n5 ?_|refine n6 ?_|(refine rg 8 [0, 3, 4, 5, 6] [0, 3, 4, 5, 6] [] ?_;simp (maxSteps := 1000000) [hF, hw])
      refine nextK.of [0, 3, 4, 5, 6] [0, 1, 2] (m - 1) (by omega) (by simp [hF]) ?_
      exact ⟨i + 1, _, _, _, by omega, by omega, en.into d.u d.o, f', by simp [dBk]⟩
    by_cases h3d : d.d = 3
    ·as_aux_lemma =>
      have f' := fb_do f ⟨3, d.u, d.o, key4k k, []⟩
      rw [doG_3 rfl] at f'
      dsimp only at f'
      have hmw := move_who (g := g) hs
      have hset : (dInts mv).setN k (.val (.int .i64 (mm + 1))) = dInts (mv.set k (mm + 1)) := by rw [dInts_setN]
      have hw2 : IntKind.i64.wrap (mm + 1) = mm + 1 := IntWalk.i64_in _ (by omega)
      repeat first|refine n1 ?_|refine n3 ?_|((first|refine rg 12 [0, 3, 4, 5, 6, 7, 8, 9] [0, 3, 4, 5, 6, 7, 8, 9, 47] [] ?_|refine rg 13 [0, 3, 4, 5, 6, 7, 8, 9, 47] [0, 3, 4, 5, 6, 7, 8, 9, 47, 48] [] ?_|refine rg 20 [0, 3, 4, 5, 6, 7, 8, 9, 47] [0, 3, 4, 5, 6, 7, 8, 9, 47, 76] [] ?_|refine rg 23 [0, 3, 4, 5, 6, 7, 8, 9, 47] [0, 3, 4, 5, 6, 7, 8, 9, 47, 94] [] ?_|refine rg 25 [0, 3, 4, 5, 6, 7, 8, 9, 47] [0, 3, 4, 5, 6, 7, 8, 9, 47, 102] [] ?_|refine rg 26 [0, 3, 4, 5, 6, 8, 9] [0, 3, 4, 5, 6, 8, 14] [] ?_|refine nc ?_);simp (maxSteps := 1000000) [hF, h0, h1d, h2d, h3d])
      refine (move_c g b (by omega) (key4k k)).go [(0, [])] (by simp (maxSteps := 1000000) [hF, dBk, hmw]) ?_;rintro av X κ ⟨rfl, rfl, rfl⟩;simp (maxSteps := 1000000) [hF, dBk, hmw]
      repeat first|refine n1 ?_|refine n2 ?_|refine n4 ?_|refine n5 ?_|refine n6 ?_|((first|refine rg 8 [0, 3, 4, 5, 6] [0, 3, 4, 5, 6] [] ?_|refine rg 27 [0, 3, 4, 5, 6, 8, 14] [0, 3, 4, 5, 6, 8, 111] [] ?_|refine rg 29 [0, 3, 4, 5, 6, 8] [0, 3, 4, 5, 6] [] ?_|refine nc ?_);simp (maxSteps := 1000000) [hF, hmv, hki, hmk, h2, hset, hw2, hw])
      refine nextK.of [0, 3, 4, 5, 6] [0, 1, 2] (m - 1) (by omega) (by simp [hF]) ?_
      exact ⟨i + 1, _, _, _, by omega, by omega, en.move hmo hs, f', by simp [dBk, hset]⟩
    by_cases h4d : d.d = 4
    ·as_aux_lemma =>
      have f' := fb_do f ⟨4, d.u, d.o, key4k k, [key4k k]⟩
      rw [doG_4 rfl] at f'
      dsimp only at f'
      repeat first|refine n1 ?_|refine n3 ?_|((first|refine rg 12 [0, 3, 4, 5, 6, 7, 8, 9] [0, 3, 4, 5, 6, 7, 8, 9, 47] [] ?_|refine rg 13 [0, 3, 4, 5, 6, 7, 8, 9, 47] [0, 3, 4, 5, 6, 7, 8, 9, 47, 48] [] ?_|refine rg 20 [0, 3, 4, 5, 6, 7, 8, 9, 47] [0, 3, 4, 5, 6, 7, 8, 9, 47, 76] [] ?_|refine rg 23 [0, 3, 4, 5, 6, 7, 8, 9, 47] [0, 3, 4, 5, 6, 7, 8, 9, 47, 94] [] ?_|refine rg 25 [0, 3, 4, 5, 6, 7, 8, 9, 47] [0, 3, 4, 5, 6, 7, 8, 9, 47, 102] [] ?_|refine rg 30 [0, 3, 4, 5, 6, 7, 8, 9, 47] [0, 3, 4, 5, 6, 7, 8, 9, 120] [] ?_|refine rg 31 [0, 3, 4, 5, 6, 7, 8, 9] [0, 3, 4, 5, 6, 7, 8, 128] [] ?_|refine nc ?_);simp (maxSteps := 1000000) [hF, h0, h1d, h2d, h3d, h4d])
      by_cases ho : (renewOf g d.u [key4k k]).2 = 0
      ·obtain ⟨a, ha, hal⟩ := renew_has ho
       have en' := en.renew hmo ho (r := [-1, -1, -1, -1].set k mm) (by simp) (set_row k mm)
       rw [ha] at en' f' ho
       simp only [Int.toNat_natCast] at en'
       obtain ⟨r, hr1, hr2, hr3⟩ := hrowl a hal
       have hset1 := dRows_set rl a [-1, -1, -1, -1]
       rw [row4] at hset1
       have hrl' : (rl.set a [-1, -1, -1, -1]).length = rl.length := by simp
       have hal' : a < (rl.set a [-1, -1, -1, -1]).length := by omega
       have hn' := dRows_nth hal'
       rw [List.getElem_set_self] at hn'
       have hset : (dRows (rl.set a [-1, -1, -1, -1])).setN a (.agg ((dInts [-1, -1, -1, -1]).setN k (.val (.int .i64 mm)))) = dRows (rl.set a ([-1, -1, -1, -1].set k mm)) := by rw [dInts_setN, dRows_set, List.set_set]
       have hrk := dInts_nth (l := [-1, -1, -1, -1]) (i := k) (by simpa using h2)
       have hoff := offs_ints [-1, -1, -1, -1] k (by simp; omega)
       have hwd : (dInts r).width = 4 := by rw [width_ints, hr2]
       have hset2 := dRows_set (rl.set a [-1, -1, -1, -1]) a ([-1, -1, -1, -1].set k mm)
       rw [List.set_set] at hset2
       have hai : (a : Int) < g.units.length := by omega
       refine (renew_w g b d.u true [key4k k] (by simp) (by simp)).go [(4, []), (0, [])] (by simp (maxSteps := 1000000) [hF, dBk, h1k, ha, ho]) ?_;rintro av X κ ⟨rfl, rfl, rfl⟩;simp (maxSteps := 1000000) [hF, dBk, h1k, ha, ho]
       repeat first|refine n1 ?_|refine n4 ?_|refine n5 ?_|refine n6 ?_|((first|refine rg 8 [0, 3, 4, 5, 6] [0, 3, 4, 5, 6] [] ?_|refine rg 32 [0, 3, 4, 5, 6, 7, 8] [0, 3, 4, 5, 6, 7, 8] [] ?_|(refine dr 33 0 [0, 3, 4, 5, 6, 7, 8] [0, 3, 4, 5, 6] [] [⟨0, 32, 21778071482940061661655974875633165533184, 5⟩, ⟨0, 128, 43556142965880123323311949751266331066368, 5⟩, ⟨2, 43556142965880123323311949751266331066368, 87112285931760246646623899502532662132736, 6⟩, ⟨0, 256, 174224571863520493293247799005065324265472, 5⟩, ⟨0, 16, 348449143727040986586495598010130648530944, 5⟩, ⟨0, 256, 696898287454081973172991196020261297061888, 5⟩, ⟨48, 1045347431181122959759486794030391945592832, 1393796574908163946345982392040522594123776, 5⟩, ⟨64, 1393796574908163946345982392040522594123776, 2787593149816327892691964784081045188247552, 6⟩, ⟨5, 108890357414700308308279874378165827665920, 5575186299632655785383929568162090376495104, 5⟩, ⟨511, 5749410871496176278677177367167155700760576, 11150372599265311570767859136324180752990208, 5⟩, ⟨767, 13937965749081639463459823920405225941237760, 0, 0⟩] (.take 0 (.take 1 (.take 2 (.take 3 (.take 4 (.take 5 (.take 6 (.take 7 (.take 8 (.take 9 (.fork (.alt 10 (.done) (.nil))))))))))))) (.run [0, 1, 2, 3, 4, 5, 6, 7, 8, 9, 10] (.done)) ?_;simp only [drs])|refine nc ?_);simp (maxSteps := 1000000) [hF, ho, hmv, hki, hmk, ha, hr3, hal, hai, hgl, hset1, hwd, hn', hrl', hrk, hoff, hset, hset2, h2, hw])
       (repeat' with_reducible refine And.intro ?_ ?_)
       all_goals (refine nextK.of [0, 3, 4, 5, 6] [0, 1, 2] (m - 1) (by omega) (by simp [hF]) ?_)
       all_goals exact ⟨i + 1, _, _, _, by omega, by omega, en', f', by simp [dBk, hset, hset2, hgl, hw]⟩
      ·have hno := renew_no ho
       rw [hno] at f'
       refine (renew_w g b d.u true [key4k k] (by simp) (by simp)).go [(4, []), (0, [])] (by simp (maxSteps := 1000000) [hF, dBk, h1k, ho, hno]) ?_;rintro av X κ ⟨rfl, rfl, rfl⟩;simp (maxSteps := 1000000) [hF, dBk, h1k, ho, hno]
       repeat first|refine n2 ?_|refine n4 ?_|refine n5 ?_|refine n6 ?_|((first|refine rg 8 [0, 3, 4, 5, 6] [0, 3, 4, 5, 6] [] ?_|refine nc ?_);simp (maxSteps := 1000000) [hF, ho, hw])
       refine nextK.of [0, 3, 4, 5, 6] [0, 1, 2] (m - 1) (by omega) (by simp [hF]) ?_
       exact ⟨i + 1, _, _, _, by omega, by omega, en.succ, f', by simp [dBk]⟩
    as_aux_lemma =>
     repeat first|refine n1 ?_|refine n2 ?_|refine n3 ?_|refine n4 ?_|refine n5 ?_|refine n6 ?_|((first|refine rg 8 [0, 3, 4, 5, 6] [0, 3, 4, 5, 6] [] ?_|refine rg 12 [0, 3, 4, 5, 6, 7, 8, 9] [0, 3, 4, 5, 6, 7, 8, 9, 47] [] ?_|refine rg 13 [0, 3, 4, 5, 6, 7, 8, 9, 47] [0, 3, 4, 5, 6, 7, 8, 9, 47, 48] [] ?_|refine rg 20 [0, 3, 4, 5, 6, 7, 8, 9, 47] [0, 3, 4, 5, 6, 7, 8, 9, 47, 76] [] ?_|refine rg 23 [0, 3, 4, 5, 6, 7, 8, 9, 47] [0, 3, 4, 5, 6, 7, 8, 9, 47, 94] [] ?_|refine rg 25 [0, 3, 4, 5, 6, 7, 8, 9, 47] [0, 3, 4, 5, 6, 7, 8, 9, 47, 102] [] ?_|refine rg 30 [0, 3, 4, 5, 6, 7, 8, 9, 47] [0, 3, 4, 5, 6, 7, 8, 9, 120] [] ?_|refine nc ?_);simp (maxSteps := 1000000) [hF, h0, h1d, h2d, h3d, h4d, hw])
     refine nextK.of [0, 3, 4, 5, 6] [0, 1, 2] (m - 1) (by omega) (by simp [hF]) ?_
     exact ⟨i + 1, _, _, _, by omega, by omega, en.succ, f.up, by simp [dBk]⟩
 as_aux_lemma =>
  have b := f.bk
  have hgl := en.len
  have hmlen := en.mlen
  have hul := b.len
  clear hi
  repeat first|refine n3 ?_|(refine rg 34 [3, 4, 5] [3, 4, 5, 15] [] ?_;simp (maxSteps := 1000000) [hF])
  refine VS.rounds (fun m st => ∃ (n : Nat), n + m = rl.length ∧ st = ⟨[(3, .ptr 0 [.d]), (4, .sub 1 [] 0 4 true), (5, .sub 2 [] 0 rl.length false), (15, avInt n)], [dBk g, .sl true () 1 (dInts mv), .sl true () 4 (dRows rl)], [], []⟩) ⟨rl.length, 0, by omega, by simp [dBk]⟩ ?_
  rintro m st ⟨n, hn, rfl⟩
  repeat first|refine n1 ?_|((first|refine rg 35 [3, 4, 5, 15] [3, 4, 5, 15, 147] [] ?_|refine nc ?_);simp (maxSteps := 1000000) [hF])
  refine ⟨fun hlt => ?_, fun hge => ?_⟩
  ·have hnl : n < g.units.length := by omega
   have hw : IntKind.i64.wrap ((n : Int) + 1) = (n + 1 : Nat) := by rw [IntWalk.i64_in _ (by omega)]; rfl
   have hq1 : upQ g n = (g.units[n].up, 0) := by simp [upQ, hasB_at hnl, unOf_at hnl]
   have hq2 : keysQ g n = (g.units[n].keys, 0) := by simp [keysQ, hasB_at hnl, unOf_at hnl]
   have hni : (n : Int) < rl.length := by omega
   have hrn := dRows_nth hlt
   have hr4 := en.rlen _ (List.getElem_mem hlt)
   have hlaw := en.law n _ _ (List.getElem?_eq_getElem hnl) (List.getElem?_eq_getElem hlt)
   generalize hrr : rl[n] = r at *
   cases hup : g.units[n].up with
   | false =>
    have hkn := (b.down _ (List.getElem_mem hnl) hup).1
    rw [hup] at hq1
    rw [hkn] at hq2
    repeat first|refine n1 ?_|refine n2 ?_|refine n3 ?_|(refine rg 37 [3, 4, 5, 15] [3, 4, 5, 15, 16, 17] [] ?_;simp (maxSteps := 1000000) [hF])
    refine (up_c g n).go [(0, [])] (by simp (maxSteps := 1000000) [hF, dBk, hq1]) ?_;rintro av X κ ⟨rfl, rfl, rfl⟩;simp (maxSteps := 1000000) [hF, dBk, hq1]
    repeat first|refine n1 ?_|(refine rg 38 [3, 4, 5, 15, 16, 17] [3, 4, 5, 15, 16, 17, 18, 19] [] ?_;simp (maxSteps := 1000000) [hF])
    refine (keys_c g b n).go [(0, [])] (by simp (maxSteps := 1000000) [hF, dBk, hq2]) ?_;rintro av X κ ⟨rfl, rfl, rfl⟩;simp (maxSteps := 1000000) [hF, dBk, hq2]
    repeat first|refine n1 ?_|refine n2 ?_|refine n3 ?_|((first|refine rg 39 [3, 4, 5, 15, 16, 17, 18, 19] [3, 4, 5, 15, 16, 176] [(2, 164), (6, 168), (9, 171)] ?_|refine rg 41 [3, 4, 5, 15, 16] [3, 4, 5, 15, 16, 20] [] ?_|refine nc ?_);simp (maxSteps := 1000000) [hF])
    refine VS.rounds (fun m2 st => m2 = 0 ∧ st = ⟨[(3, .ptr 0 [.d]), (4, .sub 1 [] 0 4 true), (5, .sub 2 [] 0 rl.length false), (15, avInt n), (16, avBool false), (20, avInt 0)], [dBk g, .sl true () 1 (dInts mv), .sl true () 4 (dRows rl), .sl true () 1 .nil], [], []⟩) ⟨0, rfl, by simp [dBk]⟩ ?_
    rintro m2 st ⟨_, rfl⟩
    repeat first|refine n1 ?_|refine n4 ?_|refine n5 ?_|refine n6 ?_|refine n7 ?_|((first|refine rg 36 [3, 4, 5, 15] [3, 4, 5, 15] [] ?_|refine rg 42 [3, 4, 5, 15, 16, 20] [3, 4, 5, 15, 16, 20, 181] [(2, 179)] ?_|refine nc ?_);simp (maxSteps := 1000000) [hF, hw])
    refine nextK.of [3, 4, 5, 15] [0, 1, 2] (m - 1) (by omega) (by simp [hF]) ?_
    exact ⟨n + 1, by omega, by simp [dBk]⟩
   | true =>
    rw [hup] at hq1
    repeat first|refine n1 ?_|refine n2 ?_|refine n3 ?_|(refine rg 37 [3, 4, 5, 15] [3, 4, 5, 15, 16, 17] [] ?_;simp (maxSteps := 1000000) [hF])
    refine (up_c g n).go [(0, [])] (by simp (maxSteps := 1000000) [hF, dBk, hq1]) ?_;rintro av X κ ⟨rfl, rfl, rfl⟩;simp (maxSteps := 1000000) [hF, dBk, hq1]
    repeat first|refine n1 ?_|(refine rg 38 [3, 4, 5, 15, 16, 17] [3, 4, 5, 15, 16, 17, 18, 19] [] ?_;simp (maxSteps := 1000000) [hF])
    refine (keys_c g b n).go [(0, [])] (by simp (maxSteps := 1000000) [hF, dBk, hq2]) ?_;rintro av X κ ⟨rfl, rfl, rfl⟩;simp (maxSteps := 1000000) [hF, dBk, hq2]
    repeat first|refine n1 ?_|refine n2 ?_|refine n3 ?_|((first|refine rg 39 [3, 4, 5, 15, 16, 17, 18, 19] [3, 4, 5, 15, 16, 176] [(2, 164), (6, 168), (9, 171)] ?_|refine rg 41 [3, 4, 5, 15, 16] [3, 4, 5, 15, 16, 20] [] ?_|refine nc ?_);simp (maxSteps := 1000000) [hF])
    refine VS.pick [3, 4, 5, 15, 16, 20] [0, 1, 2] (by simp [hF]) ?_;simp [hF]
    refine VS.rounds (fun m2 st => ∃ (k : Nat), k + m2 = 4 ∧ st = ⟨[(3, .ptr 0 [.d]), (4, .sub 1 [] 0 4 true), (5, .sub 2 [] 0 rl.length false), (15, avInt n), (16, avBool true), (20, avInt k)], [dBk g, .sl true () 1 (dInts mv), .sl true () 4 (dRows rl)], [], []⟩) ⟨4, 0, by omega, by simp [dBk]⟩ ?_
    rintro m2 st ⟨k, hk, rfl⟩
    repeat first|refine n1 ?_|(refine rg 42 [3, 4, 5, 15, 16, 20] [3, 4, 5, 15, 16, 20, 181] [(2, 179)] ?_;simp (maxSteps := 1000000) [hF])
    refine ⟨fun hk4 => ?_, fun hk4 => ?_⟩
    ·have hk4' : k < 4 := by omega
     have hw2 : IntKind.i64.wrap ((k : Int) + 1) = (k + 1 : Nat) := by rw [IntWalk.i64_in _ (by omega)]; rfl
     have hkm : k < mv.length := by omega
     have hkr : k < r.length := by omega
     have hmv := dInts_nth hkm
     have hrv := dInts_nth hkr
     have hoff := offs_ints r k (by omega)
     have hl2 := hlaw hup k _ _ (List.getElem?_eq_getElem hkm) (List.getElem?_eq_getElem hkr)
     have hmb := en.mle _ (List.getElem_mem hkm)
     generalize mv[k] = mm at *
     generalize r[k] = v at *
     by_cases hv : v = -1
     ·subst hv
      repeat first|refine n1 ?_|refine n2 ?_|refine n3 ?_|refine n4 ?_|refine n5 ?_|refine n6 ?_|((first|refine rg 43 [3, 4, 5, 15, 16, 20] [3, 4, 5, 15, 16, 20] [] ?_|(refine dr 44 0 [3, 4, 5, 15, 16, 20] [3, 4, 5, 15, 16, 20, 203] [(7, 191)] [⟨0, 32, 24519928653854221733733552434404946937899825954937634816, 5⟩, ⟨0, 32768, 49039857307708443467467104868809893875799651909875269632, 5⟩, ⟨0, 1048576, 98079714615416886934934209737619787751599303819750539264, 5⟩, ⟨3, 73559785961562665201200657303214840813699477864812904448, 196159429230833773869868419475239575503198607639501078528, 5⟩, ⟨12, 294239143846250660804802629212859363254797911459251617792, 392318858461667547739736838950479151006397215279002157056, 5⟩, ⟨16, 392318858461667547739736838950479151006397215279002157056, 784637716923335095479473677900958302012794430558004314112, 6⟩, ⟨32, 784637716923335095479473677900958302012794430558004314112, 1569275433846670190958947355801916604025588861116008628224, 5⟩, ⟨64, 1569275433846670190958947355801916604025588861116008628224, 3138550867693340381917894711603833208051177722232017256448, 5⟩, ⟨128, 3138550867693340381917894711603833208051177722232017256480, 6277101735386680763835789423207666416102355444464034512896, 5⟩, ⟨128, 3138550867693340381917894711603833208051177722232017289216, 12554203470773361527671578846415332832204710888928069025792, 5⟩, ⟨128, 3138550867693340381917894711603833208051177722232018305024, 25108406941546723055343157692830665664409421777856138051584, 5⟩, ⟨896, 21969856073853382673425262981226832456358244055624120795136, 50216813883093446110686315385661331328818843555712276103168, 5⟩, ⟨3200, 78463771692333509547947367790095830201279443055800431411200, 100433627766186892221372630771322662657637687111424552206336, 5⟩, ⟨4224, 103572178633880232603290525482926495865688864833656569462784, 200867255532373784442745261542645325315275374222849104412672, 6⟩, ⟨128, 3138550867693340381917894711603833208051177722232017256464, 401734511064747568885490523085290650630550748445698208825344, 5⟩, ⟨128, 3138550867693340381917894711603833208051177722232018305024, 803469022129495137770981046170581301261101496891396417650688, 5⟩, ⟨49280, 1208342084061936047038389463967475785099703423059326643732480, 1606938044258990275541962092341162602522202993782792835301376, 5⟩, ⟨65664, 1610076595126683615923879987052766435730254171505024852557824, 3213876088517980551083924184682325205044405987565585670602752, 6⟩, ⟨139392, 3417881894918047675908587340936574363567732539510666792271872, 6427752177035961102167848369364650410088811975131171341205504, 5⟩, ⟨262272, 6430890727903654442549766264076254243296863152853403358461952, 12855504354071922204335696738729300820177623950262342682411008, 5⟩] (.take 0 (.take 1 (.take 2 (.take 3 (.take 4 (.take 5 (.take 6 (.take 7 (.take 8 (.take 9 (.take 10 (.take 11 (.take 12 (.take 13 (.take 14 (.take 15 (.take 16 (.take 17 (.take 18 (.take 19 (.done))))))))))))))))))))) (.run [0, 1, 2, 3, 4, 5, 6, 7, 8, 9, 10, 11, 12, 13, 14, 15, 16, 17, 18, 19] (.done)) ?_;simp only [drs])|refine nc ?_);simp (maxSteps := 1000000) [hF, hrn, hlt, hni, hrv, hkr, hr4, hoff, hmv, hkm, hmlen, hk4, hk4', hw2])
      all_goals (repeat' with_reducible refine And.intro ?_ ?_)
      all_goals (refine nextK.of [3, 4, 5, 15, 16, 20] [0, 1, 2] (m2 - 1) (by omega) (by simp [hF]) ?_)
      all_goals exact ⟨k + 1, by omega, by simp [dBk]⟩
     ·have hvm : v = mm := (hl2.resolve_left hv).1
      subst hvm
      have hv0 : 0 ≤ v := hmb.1
      repeat first|refine n1 ?_|refine n2 ?_|refine n3 ?_|refine n4 ?_|refine n5 ?_|refine n6 ?_|((first|refine rg 43 [3, 4, 5, 15, 16, 20] [3, 4, 5, 15, 16, 20] [] ?_|(refine dr 44 0 [3, 4, 5, 15, 16, 20] [3, 4, 5, 15, 16, 20, 203] [(7, 191)] [⟨0, 32, 24519928653854221733733552434404946937899825954937634816, 5⟩, ⟨0, 32768, 49039857307708443467467104868809893875799651909875269632, 5⟩, ⟨0, 1048576, 98079714615416886934934209737619787751599303819750539264, 5⟩, ⟨3, 73559785961562665201200657303214840813699477864812904448, 196159429230833773869868419475239575503198607639501078528, 5⟩, ⟨12, 294239143846250660804802629212859363254797911459251617792, 392318858461667547739736838950479151006397215279002157056, 5⟩, ⟨16, 392318858461667547739736838950479151006397215279002157056, 784637716923335095479473677900958302012794430558004314112, 6⟩, ⟨32, 784637716923335095479473677900958302012794430558004314112, 1569275433846670190958947355801916604025588861116008628224, 5⟩, ⟨64, 1569275433846670190958947355801916604025588861116008628224, 3138550867693340381917894711603833208051177722232017256448, 5⟩, ⟨128, 3138550867693340381917894711603833208051177722232017256480, 6277101735386680763835789423207666416102355444464034512896, 5⟩, ⟨128, 3138550867693340381917894711603833208051177722232017289216, 12554203470773361527671578846415332832204710888928069025792, 5⟩, ⟨128, 3138550867693340381917894711603833208051177722232018305024, 25108406941546723055343157692830665664409421777856138051584, 5⟩, ⟨896, 21969856073853382673425262981226832456358244055624120795136, 50216813883093446110686315385661331328818843555712276103168, 5⟩, ⟨3200, 78463771692333509547947367790095830201279443055800431411200, 100433627766186892221372630771322662657637687111424552206336, 5⟩, ⟨4224, 103572178633880232603290525482926495865688864833656569462784, 200867255532373784442745261542645325315275374222849104412672, 6⟩, ⟨128, 3138550867693340381917894711603833208051177722232017256464, 401734511064747568885490523085290650630550748445698208825344, 5⟩, ⟨128, 3138550867693340381917894711603833208051177722232018305024, 803469022129495137770981046170581301261101496891396417650688, 5⟩, ⟨49280, 1208342084061936047038389463967475785099703423059326643732480, 1606938044258990275541962092341162602522202993782792835301376, 5⟩, ⟨65664, 1610076595126683615923879987052766435730254171505024852557824, 3213876088517980551083924184682325205044405987565585670602752, 6⟩, ⟨139392, 3417881894918047675908587340936574363567732539510666792271872, 6427752177035961102167848369364650410088811975131171341205504, 5⟩, ⟨262272, 6430890727903654442549766264076254243296863152853403358461952, 12855504354071922204335696738729300820177623950262342682411008, 5⟩] (.take 0 (.take 1 (.take 2 (.take 3 (.take 4 (.take 5 (.take 6 (.take 7 (.take 8 (.take 9 (.take 10 (.take 11 (.take 12 (.take 13 (.take 14 (.take 15 (.take 16 (.take 17 (.take 18 (.take 19 (.done))))))))))))))))))))) (.run [0, 1, 2, 3, 4, 5, 6, 7, 8, 9, 10, 11, 12, 13, 14, 15, 16, 17, 18, 19] (.done)) ?_;simp only [drs])|refine nc ?_);simp (maxSteps := 1000000) [hF, hrn, hlt, hni, hrv, hkr, hr4, hoff, hmv, hkm, hmlen, hk4, hk4', hv0, hw2])
      all_goals (repeat' with_reducible refine And.intro ?_ ?_)
      all_goals (refine nextK.of [3, 4, 5, 15, 16, 20] [0, 1, 2] (m2 - 1) (by omega) (by simp [hF]) ?_)
      all_goals exact ⟨k + 1, by omega, by simp [dBk]⟩
    ·repeat first|refine n4 ?_|refine n5 ?_|refine n6 ?_|refine n7 ?_|((first|refine rg 36 [3, 4, 5, 15] [3, 4, 5, 15] [] ?_|refine nc ?_);simp (maxSteps := 1000000) [hF, hw])
     refine nextK.of [3, 4, 5, 15] [0, 1, 2] (m - 1) (by omega) (by simp [hF]) ?_
     exact ⟨n + 1, by omega, by simp [dBk]⟩
  ·repeat first|refine n1 ?_|refine n7 ?_|(refine rg 46 [] [2] [] ?_;simp (maxSteps := 1000000) [hF])
   refine (sane_ok).go [] (by simp (maxSteps := 1000000) [hF]) ?_;rintro av X κ ⟨rfl, rfl, rfl⟩;simp (maxSteps := 1000000) [hF]
   (try refine nr ?_);(repeat first|refine nb_ ?_|refine nl_ ?_);refine endK.o [2] [] [] ?_;simp [hF, retK, covers, mpre]
end Go.Proofs.Ytipokdbfdingmaa

/- Proved: GroundEnough returns true for every input, and its arguments read behind the call as before. No condition. -/
namespace Go.Proofs.Ytipokdbfdingmaa.groundEnough
set_option linter.all false
open Go.Vc Go.ChangeShapes Go.WideShapes Go.ChangeAt Go.RowKit
set_option linter.unusedVariables false
theorem own : ownKnob Try.prog.godebug = none := by kernel_rfl
theorem laid : laidOutB Try.prog = true := by kernel_rfl
set_option maxRecDepth 100000 in
theorem lifted (os : Os) (started : os.Started) (H : Type) (enc : TypeId × Value → H) :
    ReturnsInHanded {} Try.checked os 3 .any (Rows.groundEnoughSpec.pre6 enc Try.prog Try.f3 Rows.groundEnoughRow.domain false) (Rows.groundEnoughSpec.post enc Try.prog Try.f3 false true false false) := by
  refine returnsInHanded_of_change (C := Try.checked) own started (by kernel_rfl) Try.func3
    (ChangeSpec.witness6 (enc := enc) (C := Try.checked) false ⟨#[], #[.slice none 0 0], []⟩ 8 (by kernel_rfl) (by kernel_rfl) (by kernel_rfl) (by kernel_rfl)) ?_
  intro W base args ds gs before hval0 hW hcnd _
  have hval : ∀ (j : Nat) t v, Try.f3.params[j]? = some t → args[j]? = some v → Value.okWide Try.prog W .any base t v := hval0
  have hW' := hW
  obtain ⟨p, q, hA0, hV, rfl, hfz, hnd⟩ := hW
  have hA : DataW.TrodAll enc Try.prog W 0 (fun _ => true) true Try.f3.params.toList args.toList ds p := hA0
  rw [Try.params3] at hA hval
  obtain ⟨v0, vs0, d0, ds0, p0, q0, hargs0, rfl, rfl, h0, r0⟩ := trodAll_cons hA
  obtain ⟨rfl, rfl, rfl⟩ := trodAll_nil r0
  obtain rfl : args = #[v0] := by cases args; simp_all
  obtain ⟨rfl, rfl⟩ := trodVars_none hV
  obtain ⟨a0, hlen0, hr0⟩ := deeds_of (hval 0 22 v0 rfl rfl) h0
  clear hA0 hval0
  have hwalk : Calls Try.prog 3 #[v0] W fun e w' => e = .returned (.bool true) ∧ Below W.heap.size W w' :=
    Meets.law (enough_ok a0 false) (vs := [v0]) (I := allB W) (fun _ h => h) ⟨v0, _, rfl, hr0, rfl⟩
  refine hwalk.mono fun e W' ⟨he, bel⟩ => ?_
  subst he
  exact ⟨_, rfl, _, _, _, [], _, [], hW', trodAll_mk1 (shut_bool Try.underlying4 _), (trodAll_cons_mk (Below.trod laid (by kernel_rfl) (of_decide_eq_true (by kernel_rfl)) h0 bel fun x hx => hW'.lt x (by simp [hx])) trodAll_mk0), rfl, bel.frame _, fun h => by cases h⟩
theorem over : Rows.groundEnoughRow.holds Try.pinned (OpenSpec.ofChange Rows.groundEnoughSpec) :=
  OpenClaim.holds_of_wide 3 Try.f3 rfl rfl rfl rfl rfl rfl rfl ⟨rfl, rfl, rfl, rfl, rfl⟩ rfl rfl rfl rfl rfl (by kernel_rfl) Try.func3 (by kernel_rfl)
    (of_decide_eq_true (by kernel_rfl)) (by unfold Func.isWrapper; first | (rw [if_pos (by decide +kernel)]; kernel_rfl) | (rw [if_neg (by decide +kernel)]; exact ⟨rfl, rfl⟩))
    (fun os started H enc _ => lifted os started H enc)
theorem proved : Rows.GroundEnoughSaid :=
  over
end Go.Proofs.Ytipokdbfdingmaa.groundEnough
