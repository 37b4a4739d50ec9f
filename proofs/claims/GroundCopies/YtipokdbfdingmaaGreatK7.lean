/- What the program does with a book: units. -/
import Derived.Test.YtipokdbfdingmaaGreatK6
namespace Go.Proofs.YtipokdbfdingmaaGreat
set_option linter.all false
open Go.Vc Go.Proofs
set_option linter.unusedSimpArgs false
set_option linter.unusedVariables false
set_option maxRecDepth 100000
set_option maxHeartbeats 4000000
attribute [local irreducible] CallW EqK
theorem keysE_cases (l : List ByteArray) : keysE l = 6 ∨ keysE l = 9 ∨ keysE l = 0 := by
 unfold keysE
 split
 ·exact .inl rfl
 ·split
  ·exact .inr (.inl rfl)
  ·exact .inr (.inr rfl)
theorem keysOf_6 (ex : Bool) (l : List ByteArray) (h0 : 0 < l.length) (hl : l.length ≤ 100000) (he : keysE l = 6) : Meets Tryz.prog 50 [] (.cons (.imm 1 (strs l) ex) .nil)
  fun av X κ => av = .tup (.cons (.nils 1) (.cons (avInt 6) (.cons (avInt 0) .nil))) ∧ X = [] ∧ κ = [] :=
 Meets.mono (keysOf_ok ex l h0 hl) (by rintro av X κ (⟨_, h⟩ | ⟨h, _⟩ | ⟨h, _⟩); exact h; omega; omega)
theorem keysOf_9 (ex : Bool) (l : List ByteArray) (h0 : 0 < l.length) (hl : l.length ≤ 100000) (he : keysE l = 9) : Meets Tryz.prog 50 [] (.cons (.imm 1 (strs l) ex) .nil)
  fun av X κ => av = .tup (.cons (.nils 1) (.cons (avInt 0) (.cons (avInt 9) .nil))) ∧ X = [] ∧ κ = [] :=
 Meets.mono (keysOf_ok ex l h0 hl) (by rintro av X κ (⟨h, _⟩ | ⟨_, h⟩ | ⟨h, _⟩); omega; exact h; omega)
theorem keysOf_0 (ex : Bool) (l : List ByteArray) (h0 : 0 < l.length) (hl : l.length ≤ 100000) (he : keysE l = 0) : Meets Tryz.prog 50 [] (.cons (.imm 1 (strs l) ex) .nil)
  fun av X κ => ∃ z, av = .tup (.cons (.sub 0 [] 0 (keysS l).length false) (.cons (avInt 0) (.cons (avInt 0) .nil))) ∧ X = [.sl true () 1 (strs (keysS l ++ z))] ∧ κ = [] :=
 Meets.mono (keysOf_ok ex l h0 hl) (by rintro av X κ (⟨h, _⟩ | ⟨h, _⟩ | ⟨_, h⟩); omega; omega; exact h)
theorem strs_pre (l z : List ByteArray) : (strs (l ++ z)).mid 0 l.length = strs l := by rw [strs_mid, List.drop_zero, List.take_append_of_le_length (Nat.le_refl _), List.take_length]
theorem insS_len1 {k : ByteArray} {l : List ByteArray} (hA : Asc l) (hk : ¬ k ∈ l) : (insS k l).length = l.length + 1 := by
 rw [← posS_ins hA hk, List.length_append, List.length_cons, List.length_take, List.length_drop]
 have := posS_le k l
 omega
theorem new_ok : Meets Tryz.prog 11 [] .nil fun av X κ => av = .ptr 0 [.d] ∧ X = [dBk bornB] ∧ κ = [] := by
 refine fb Tryz.func11 Tryz.ntmps11 [.tmp 0] fun w0 I0 F0 hF => ?_
 repeat first|refine n1 ?_|((first|refine rg 0 [] [] [] ?_|refine rg 1 [] [0] [] ?_);simp (maxSteps := 1000000) [hF])
 (try refine nr ?_);(repeat first|refine nb_ ?_|refine nl_ ?_);refine endK.o [0] [1] [] ?_;simp [hF, retK, covers, mpre, dBk, bornB]
theorem unit_c {n : Nat} (g : Gb) (b : Bk n g) (ex : Bool) (l : List ByteArray) (h0 : 0 < l.length) (hl : l.length ≤ 100000) : Meets Tryz.prog 19 [dBk g] (.cons (.ptr 0 [.d]) (.cons (.imm 1 (strs l) ex) .nil))
  fun av X κ => av = two (unitOf g l).2 ∧ X = [dBk (unitOf g l).1] ∧ κ = [(0, [.d])] := by
 have hul := b.len
 rcases keysE_cases l with he | he | he
 ·have hc : unitOf g l = (g, 0, 6) := by simp [unitOf, he]
  refine fb Tryz.func19 Tryz.ntmps19 [.tmp 4, .tmp 5] fun w0 I0 F0 hF => ?_
  repeat first|refine n1 ?_|((first|refine rg 0 [0, 1] [0, 1] [] ?_|refine rg 1 [0, 1] [0, 1, 11] [] ?_);simp (maxSteps := 1000000) [hF, dBk])
  refine (real_c g).go [(0, [])] (by simp (maxSteps := 1000000) [hF, dBk]) ?_;rintro av X κ ⟨rfl, rfl, rfl⟩;simp (maxSteps := 1000000) [hF, dBk]
  repeat first|refine n1 ?_|refine n2 ?_|((first|refine rg 3 [0, 1] [0, 6, 7, 8] [] ?_|refine nc ?_);simp (maxSteps := 1000000) [hF])
  refine (keysOf_6 ex l h0 hl he).go [] (by simp (maxSteps := 1000000) [hF]) ?_;rintro av X κ ⟨rfl, rfl, rfl⟩;simp (maxSteps := 1000000) [hF]
  repeat first|refine n1 ?_|refine n3 ?_|((first|refine rg 4 [0, 6, 7, 8] [0, 6, 7, 8, 18] [] ?_|refine rg 5 [7] [4, 5] [] ?_|refine nc ?_);simp (maxSteps := 1000000) [hF])
  refine VS.widen [(0, [.d])] (by simp [covers, mpre]) ?_
  (try refine nr ?_);(repeat first|refine nb_ ?_|refine nl_ ?_);refine endK.o [4, 5] [0] [(0, [.d])] ?_;simp [hF, retK, covers, mpre, dBk, hc]
 ·have hc : unitOf g l = (g, 0, 9) := by simp [unitOf, he]
  refine fb Tryz.func19 Tryz.ntmps19 [.tmp 4, .tmp 5] fun w0 I0 F0 hF => ?_
  repeat first|refine n1 ?_|((first|refine rg 0 [0, 1] [0, 1] [] ?_|refine rg 1 [0, 1] [0, 1, 11] [] ?_);simp (maxSteps := 1000000) [hF, dBk])
  refine (real_c g).go [(0, [])] (by simp (maxSteps := 1000000) [hF, dBk]) ?_;rintro av X κ ⟨rfl, rfl, rfl⟩;simp (maxSteps := 1000000) [hF, dBk]
  repeat first|refine n1 ?_|refine n2 ?_|((first|refine rg 3 [0, 1] [0, 6, 7, 8] [] ?_|refine nc ?_);simp (maxSteps := 1000000) [hF])
  refine (keysOf_9 ex l h0 hl he).go [] (by simp (maxSteps := 1000000) [hF]) ?_;rintro av X κ ⟨rfl, rfl, rfl⟩;simp (maxSteps := 1000000) [hF]
  repeat first|refine n1 ?_|refine n3 ?_|((first|refine rg 4 [0, 6, 7, 8] [0, 6, 7, 8, 18] [] ?_|refine rg 6 [0, 6, 8] [0, 6, 22] [(2, 25)] ?_|refine rg 7 [] [4, 5] [] ?_|refine nc ?_);simp (maxSteps := 1000000) [hF])
  refine VS.widen [(0, [.d])] (by simp [covers, mpre]) ?_
  (try refine nr ?_);(repeat first|refine nb_ ?_|refine nl_ ?_);refine endK.o [4, 5] [0] [(0, [.d])] ?_;simp [hF, retK, covers, mpre, dBk, hc]
 ·by_cases hf : 200 ≤ g.units.length
  ·have hc : unitOf g l = (g, 0, 9) := by simp [unitOf, he, hf]
   have hfi : (200 : Int) ≤ g.units.length := by omega
   refine fb Tryz.func19 Tryz.ntmps19 [.tmp 4, .tmp 5] fun w0 I0 F0 hF => ?_
   repeat first|refine n1 ?_|((first|refine rg 0 [0, 1] [0, 1] [] ?_|refine rg 1 [0, 1] [0, 1, 11] [] ?_);simp (maxSteps := 1000000) [hF, dBk])
   refine (real_c g).go [(0, [])] (by simp (maxSteps := 1000000) [hF, dBk]) ?_;rintro av X κ ⟨rfl, rfl, rfl⟩;simp (maxSteps := 1000000) [hF, dBk]
   repeat first|refine n1 ?_|refine n2 ?_|((first|refine rg 3 [0, 1] [0, 6, 7, 8] [] ?_|refine nc ?_);simp (maxSteps := 1000000) [hF])
   refine (keysOf_0 ex l h0 hl he).go [] (by simp (maxSteps := 1000000) [hF]) ?_;rintro av X κ ⟨z, rfl, rfl, rfl⟩;simp (maxSteps := 1000000) [hF]
   repeat first|refine n1 ?_|refine n3 ?_|((first|refine rg 4 [0, 6, 7, 8] [0, 6, 7, 8, 18] [] ?_|refine rg 6 [0, 6, 8] [0, 6, 22] [(2, 25)] ?_|refine rg 7 [] [4, 5] [] ?_|refine nc ?_);simp (maxSteps := 1000000) [hF, dBk, hf, hfi])
   refine VS.widen [(0, [.d])] (by simp [covers, mpre]) ?_
   (try refine nr ?_);(repeat first|refine nb_ ?_|refine nl_ ?_);refine endK.o [4, 5] [0] [(0, [.d])] ?_;simp [hF, retK, covers, mpre, dBk, hc]
  ·have hc : unitOf g l = ({ g with units := g.units ++ [⟨true, keysS l, []⟩] }, (g.units.length : Int), 0) := by simp [unitOf, he, hf]
   have hfi : ¬ (200 : Int) ≤ g.units.length := by omega
   have c1 : (g.units.length + 1) * 56 ≤ 140737488355328 := by omega
   have c2 : g.units.length ≤ 9223372036854775806 := by omega
   have hp : (dUns true g.units).app (.cons (.agg (.cons (.val (.bool true)) (.cons (.sl true () 1 (strs (keysS l))) (.cons (.sl true () 1 .nil) .nil)))) .nil) = dUns true (g.units ++ [⟨true, keysS l, []⟩]) := dUns_push true g.units true (keysS l) []
   have hm1 := dUns_mid1 true g.units ⟨true, keysS l, []⟩
   have hw : IntKind.i64.wrap (g.units.length : Int) = (g.units.length : Int) := IntWalk.i64_in _ (by omega)
   refine fb Tryz.func19 Tryz.ntmps19 [.tmp 4, .tmp 5] fun w0 I0 F0 hF => ?_
   repeat first|refine n1 ?_|((first|refine rg 0 [0, 1] [0, 1] [] ?_|refine rg 1 [0, 1] [0, 1, 11] [] ?_);simp (maxSteps := 1000000) [hF, dBk])
   refine (real_c g).go [(0, [])] (by simp (maxSteps := 1000000) [hF, dBk]) ?_;rintro av X κ ⟨rfl, rfl, rfl⟩;simp (maxSteps := 1000000) [hF, dBk]
   repeat first|refine n1 ?_|refine n2 ?_|((first|refine rg 3 [0, 1] [0, 6, 7, 8] [] ?_|refine nc ?_);simp (maxSteps := 1000000) [hF])
   refine (keysOf_0 ex l h0 hl he).go [] (by simp (maxSteps := 1000000) [hF]) ?_;rintro av X κ ⟨z, rfl, rfl, rfl⟩;simp (maxSteps := 1000000) [hF]
   have hpre := strs_pre (keysS l) z
   repeat first|refine n1 ?_|refine n2 ?_|refine n3 ?_|refine n4 ?_|((first|refine rg 4 [0, 6, 7, 8] [0, 6, 7, 8, 18] [] ?_|refine rg 6 [0, 6, 8] [0, 6, 22] [(2, 25)] ?_|refine nc ?_);simp (maxSteps := 1000000) [hF, dBk, hf, hfi])
   refine ghostL 0 [.d, .f 0] ?_;simp (maxSteps := 1000000) [hF, St.lift, AV.lift, liftPl, stripP, nodeAV, isNode, dBk]
   repeat first|refine n1 ?_|((first|refine rg 8 [0, 6] [0] [] ?_|refine rg 9 [0] [4, 5] [] ?_);simp (maxSteps := 1000000) [hF, hp, hm1, c1, c2, hpre, hw])
   refine VS.widen [(0, [.d])] (by simp [covers, mpre]) ?_
   (try refine nr ?_);(repeat first|refine nb_ ?_|refine nl_ ?_);refine endK.o [4, 5] [0] [(0, [.d])] ?_;simp [hF, retK, covers, mpre, dBk, hc]
theorem rely_c {n : Nat} (g : Gb) (b : Bk n g) (u : Int) (k : ByteArray) : Meets Tryz.prog 30 [dBk g] (.cons (.ptr 0 [.d]) (.cons (avInt u) (.cons (avStr k) .nil)))
  fun av X κ => av = avInt (relyOf g u k).2 ∧ X = [dBk (relyOf g u k).1] ∧ κ = [(0, [.d])] := by
 cases hh : hasB g u with
 | false =>
  have hc : relyOf g u k = (g, 1) := by simp [relyOf, hh]
  refine fb Tryz.func30 Tryz.ntmps30 [.tmp 6] fun w0 I0 F0 hF => ?_
  repeat first|refine n1 ?_|refine n3 ?_|((first|refine rg 0 [0, 1, 2] [0, 1, 2] [] ?_|refine rg 1 [0, 1, 2] [0, 1, 2, 10] [] ?_);simp (maxSteps := 1000000) [hF, dBk])
  refine (has_c g u).go [(0, [])] (by simp (maxSteps := 1000000) [hF, dBk, hh]) ?_;rintro av X κ ⟨rfl, rfl, rfl⟩;simp (maxSteps := 1000000) [hF, dBk, hh]
  repeat first|refine n1 ?_|((first|refine rg 2 [] [6] [] ?_|refine nc ?_);simp (maxSteps := 1000000) [hF])
  refine VS.widen [(0, [.d])] (by simp [covers, mpre]) ?_
  (try refine nr ?_);(repeat first|refine nb_ ?_|refine nl_ ?_);refine endK.o [6] [0] [(0, [.d])] ?_;simp [hF, retK, covers, mpre, dBk, hc]
 | true =>
  obtain ⟨i, hi, rfl, hu, _⟩ := unOf_mem hh
  have hn := dUns_nth (o := true) hi
  have hii : (i : Int) < g.units.length := by omega
  have ha := b.asc _ (List.getElem_mem hi)
  cases hk : isKeyB k with
  | false =>
   have hc : relyOf g i k = (g, 6) := by simp [relyOf, hh, hk]
   refine fb Tryz.func30 Tryz.ntmps30 [.tmp 6] fun w0 I0 F0 hF => ?_
   repeat first|refine n1 ?_|refine n3 ?_|((first|refine rg 0 [0, 1, 2] [0, 1, 2] [] ?_|refine rg 1 [0, 1, 2] [0, 1, 2, 10] [] ?_);simp (maxSteps := 1000000) [hF, dBk])
   refine (has_c g i).go [(0, [])] (by simp (maxSteps := 1000000) [hF, dBk, hh]) ?_;rintro av X κ ⟨rfl, rfl, rfl⟩;simp (maxSteps := 1000000) [hF, dBk, hh]
   repeat first|refine n1 ?_|((first|refine rg 3 [0, 1, 2] [0, 1, 2, 15] [] ?_|refine nc ?_);simp (maxSteps := 1000000) [hF])
   refine (isKey_ok k).go [] (by simp (maxSteps := 1000000) [hF, hk]) ?_;rintro av X κ ⟨rfl, rfl, rfl⟩;simp (maxSteps := 1000000) [hF, hk]
   repeat first|refine n1 ?_|((first|refine rg 4 [] [6] [] ?_|refine nc ?_);simp (maxSteps := 1000000) [hF])
   refine VS.widen [(0, [.d])] (by simp [covers, mpre]) ?_
   (try refine nr ?_);(repeat first|refine nb_ ?_|refine nl_ ?_);refine endK.o [6] [0] [(0, [.d])] ?_;simp [hF, retK, covers, mpre, dBk, hc]
  | true =>
   cases hup : g.units[i].up with
   | false =>
    have hc : relyOf g i k = (g, 8) := by simp [relyOf, hh, hk, hu, hup]
    refine fb Tryz.func30 Tryz.ntmps30 [.tmp 6] fun w0 I0 F0 hF => ?_
    repeat first|refine n1 ?_|refine n3 ?_|((first|refine rg 0 [0, 1, 2] [0, 1, 2] [] ?_|refine rg 1 [0, 1, 2] [0, 1, 2, 10] [] ?_);simp (maxSteps := 1000000) [hF, dBk])
    refine (has_c g i).go [(0, [])] (by simp (maxSteps := 1000000) [hF, dBk, hh]) ?_;rintro av X κ ⟨rfl, rfl, rfl⟩;simp (maxSteps := 1000000) [hF, dBk, hh]
    repeat first|refine n1 ?_|((first|refine rg 3 [0, 1, 2] [0, 1, 2, 15] [] ?_|refine nc ?_);simp (maxSteps := 1000000) [hF])
    refine (isKey_ok k).go [] (by simp (maxSteps := 1000000) [hF, hk]) ?_;rintro av X κ ⟨rfl, rfl, rfl⟩;simp (maxSteps := 1000000) [hF, hk]
    repeat first|refine n1 ?_|((first|refine rg 5 [0, 1, 2] [0, 1, 2, 19] [] ?_|refine rg 6 [] [6] [] ?_|refine nc ?_);simp (maxSteps := 1000000) [hF, dBk, hn, hi, hii, hup])
    refine VS.widen [(0, [.d])] (by simp [covers, mpre]) ?_
    (try refine nr ?_);(repeat first|refine nb_ ?_|refine nl_ ?_);refine endK.o [6] [0] [(0, [.d])] ?_;simp [hF, retK, covers, mpre, dBk, hc]
   | true =>
    have hsm := dUns_same (o := true) hi hup
    cases hs : hasS g.units[i].keys k with
    | true =>
     have hc : relyOf g i k = (g, 0) := by simp [relyOf, hh, hk, hu, hup, hs]
     refine fb Tryz.func30 Tryz.ntmps30 [.tmp 6] fun w0 I0 F0 hF => ?_
     repeat first|refine n1 ?_|refine n3 ?_|((first|refine rg 0 [0, 1, 2] [0, 1, 2] [] ?_|refine rg 1 [0, 1, 2] [0, 1, 2, 10] [] ?_);simp (maxSteps := 1000000) [hF, dBk])
     refine (has_c g i).go [(0, [])] (by simp (maxSteps := 1000000) [hF, dBk, hh]) ?_;rintro av X κ ⟨rfl, rfl, rfl⟩;simp (maxSteps := 1000000) [hF, dBk, hh]
     repeat first|refine n1 ?_|((first|refine rg 3 [0, 1, 2] [0, 1, 2, 15] [] ?_|refine nc ?_);simp (maxSteps := 1000000) [hF])
     refine (isKey_ok k).go [] (by simp (maxSteps := 1000000) [hF, hk]) ?_;rintro av X κ ⟨rfl, rfl, rfl⟩;simp (maxSteps := 1000000) [hF, hk]
     repeat first|refine n1 ?_|refine n2 ?_|refine n4 ?_|((first|refine rg 5 [0, 1, 2] [0, 1, 2, 19] [] ?_|refine rg 7 [0, 1, 2] [2, 7] [] ?_|refine rg 8 [2, 7] [2, 7, 8, 9] [] ?_|refine nc ?_);simp (maxSteps := 1000000) [hF, dBk, hn, hi, hii, hup])
     refine (bin_c g.units[i].keys k ha.1 false (by omega)).go [(0, [.d, .f 0, .i i, .f 1])] (by simp (maxSteps := 1000000) [hF, dBk, hn, hi, hii, hup, hsm, hs]) ?_;rintro av X κ ⟨rfl, rfl, rfl⟩;simp (maxSteps := 1000000) [hF, dBk, hn, hi, hii, hup, hsm, hs]
     repeat first|refine n1 ?_|refine n3 ?_|((first|refine rg 9 [2, 7, 8, 9] [2, 7, 8, 44] [] ?_|refine rg 10 [] [6] [] ?_|refine nc ?_);simp (maxSteps := 1000000) [hF, hs])
     refine VS.widen [(0, [.d])] (by simp [covers, mpre]) ?_
     (try refine nr ?_);(repeat first|refine nb_ ?_|refine nl_ ?_);refine endK.o [6] [0] [(0, [.d])] ?_;simp [hF, retK, covers, mpre, dBk, hc, hsm]
    | false =>
     have hkm : ¬ k ∈ g.units[i].keys := fun h => by rw [hasS_iff.2 h] at hs; cases hs
     by_cases hf : 30 ≤ g.units[i].keys.length
     ·have hc : relyOf g i k = (g, 9) := by simp [relyOf, hh, hk, hu, hup, hs, hf]
      have hfi : (30 : Int) ≤ g.units[i].keys.length := by omega
      refine fb Tryz.func30 Tryz.ntmps30 [.tmp 6] fun w0 I0 F0 hF => ?_
      repeat first|refine n1 ?_|refine n3 ?_|((first|refine rg 0 [0, 1, 2] [0, 1, 2] [] ?_|refine rg 1 [0, 1, 2] [0, 1, 2, 10] [] ?_);simp (maxSteps := 1000000) [hF, dBk])
      refine (has_c g i).go [(0, [])] (by simp (maxSteps := 1000000) [hF, dBk, hh]) ?_;rintro av X κ ⟨rfl, rfl, rfl⟩;simp (maxSteps := 1000000) [hF, dBk, hh]
      repeat first|refine n1 ?_|((first|refine rg 3 [0, 1, 2] [0, 1, 2, 15] [] ?_|refine nc ?_);simp (maxSteps := 1000000) [hF])
      refine (isKey_ok k).go [] (by simp (maxSteps := 1000000) [hF, hk]) ?_;rintro av X κ ⟨rfl, rfl, rfl⟩;simp (maxSteps := 1000000) [hF, hk]
      repeat first|refine n1 ?_|refine n2 ?_|refine n4 ?_|((first|refine rg 5 [0, 1, 2] [0, 1, 2, 19] [] ?_|refine rg 7 [0, 1, 2] [2, 7] [] ?_|refine rg 8 [2, 7] [2, 7, 8, 9] [] ?_|refine nc ?_);simp (maxSteps := 1000000) [hF, dBk, hn, hi, hii, hup])
      refine (bin_c g.units[i].keys k ha.1 false (by omega)).go [(0, [.d, .f 0, .i i, .f 1])] (by simp (maxSteps := 1000000) [hF, dBk, hn, hi, hii, hup, hsm, hs]) ?_;rintro av X κ ⟨rfl, rfl, rfl⟩;simp (maxSteps := 1000000) [hF, dBk, hn, hi, hii, hup, hsm, hs]
      repeat first|refine n1 ?_|refine n3 ?_|((first|refine rg 9 [2, 7, 8, 9] [2, 7, 8, 44] [] ?_|refine rg 11 [2, 7, 8] [2, 7, 8, 46] [] ?_|refine rg 12 [] [6] [] ?_|refine nc ?_);simp (maxSteps := 1000000) [hF, hs, hn, hi, hfi, hf])
      refine VS.widen [(0, [.d])] (by simp [covers, mpre]) ?_
      (try refine nr ?_);(repeat first|refine nb_ ?_|refine nl_ ?_);refine endK.o [6] [0] [(0, [.d])] ?_;simp [hF, retK, covers, mpre, dBk, hc, hsm]
     ·have hc : relyOf g i k = (setU g i { up := true, keys := insS k g.units[i].keys, inn := g.units[i].inn }, 0) := by simp [relyOf, hh, hk, hu, hup, hs, hf]
      have hfi : ¬ (30 : Int) ≤ g.units[i].keys.length := by omega
      have h1 : strs [k] = .cons (.val (.string k)) .nil := rfl
      have hli := insS_len1 ha.1 hkm
      have hmid : (strs (insS k g.units[i].keys)).mid 0 (g.units[i].keys.length + 1) = strs (insS k g.units[i].keys) := by rw [← hli]; exact strs_mid_all _
      have hset := dUns_set true g.units i true (insS k g.units[i].keys) g.units[i].inn
      refine fb Tryz.func30 Tryz.ntmps30 [.tmp 6] fun w0 I0 F0 hF => ?_
      repeat first|refine n1 ?_|refine n3 ?_|((first|refine rg 0 [0, 1, 2] [0, 1, 2] [] ?_|refine rg 1 [0, 1, 2] [0, 1, 2, 10] [] ?_);simp (maxSteps := 1000000) [hF, dBk])
      refine (has_c g i).go [(0, [])] (by simp (maxSteps := 1000000) [hF, dBk, hh]) ?_;rintro av X κ ⟨rfl, rfl, rfl⟩;simp (maxSteps := 1000000) [hF, dBk, hh]
      repeat first|refine n1 ?_|((first|refine rg 3 [0, 1, 2] [0, 1, 2, 15] [] ?_|refine nc ?_);simp (maxSteps := 1000000) [hF])
      refine (isKey_ok k).go [] (by simp (maxSteps := 1000000) [hF, hk]) ?_;rintro av X κ ⟨rfl, rfl, rfl⟩;simp (maxSteps := 1000000) [hF, hk]
      repeat first|refine n1 ?_|refine n2 ?_|refine n4 ?_|((first|refine rg 5 [0, 1, 2] [0, 1, 2, 19] [] ?_|refine rg 7 [0, 1, 2] [2, 7] [] ?_|refine rg 8 [2, 7] [2, 7, 8, 9] [] ?_|refine nc ?_);simp (maxSteps := 1000000) [hF, dBk, hn, hi, hii, hup])
      refine (bin_c g.units[i].keys k ha.1 false (by omega)).go [(0, [.d, .f 0, .i i, .f 1])] (by simp (maxSteps := 1000000) [hF, dBk, hn, hi, hii, hup, hsm, hs]) ?_;rintro av X κ ⟨rfl, rfl, rfl⟩;simp (maxSteps := 1000000) [hF, dBk, hn, hi, hii, hup, hsm, hs]
      repeat first|refine n1 ?_|refine n2 ?_|refine n3 ?_|refine n4 ?_|((first|refine rg 9 [2, 7, 8, 9] [2, 7, 8, 44] [] ?_|refine rg 11 [2, 7, 8] [2, 7, 8, 46] [] ?_|refine rg 13 [2, 7, 8] [] [] ?_|refine nc ?_);simp (maxSteps := 1000000) [hF, hs, hn, hi, hfi, hf, hup])
      refine (cloneS_c false g.units[i].keys (by omega)).go [(0, [.d, .f 0, .i i, .f 1])] (by simp (maxSteps := 1000000) [hF, dBk, hn, hi, hii, hup, hsm, h1]) ?_;rintro av X κ ⟨rfl, rfl, rfl⟩;simp (maxSteps := 1000000) [hF, dBk, hn, hi, hii, hup, hsm, h1]
      refine (ins_ok g.units[i].keys k ha.1 hkm (by omega)).go [(1, []), (2, [])] (by simp (maxSteps := 1000000) [hF, dBk, hn, hi, hii, hup, h1, hmid, hset]) ?_;rintro av X κ ⟨rfl, rfl, rfl⟩;simp (maxSteps := 1000000) [hF, dBk, hn, hi, hii, hup, h1, hmid, hset]
      repeat first|refine n1 ?_|(refine rg 14 [] [6] [] ?_;simp (maxSteps := 1000000) [hF])
      refine VS.widen [(0, [.d])] (by simp [covers, mpre]) ?_
      (try refine nr ?_);(repeat first|refine nb_ ?_|refine nl_ ?_);refine endK.o [6] [0] [(0, [.d])] ?_;simp [hF, retK, covers, mpre, dBk, hc, setU, hset]
def dMB (M : List Bool) : D := .box true () (.sl true () 1 (dBools M))
@[simp high] theorem head_dMB (M : List Bool) : isHead (dMB M) = true := by rw [dMB, isHead]
theorem gone_ok (M : List Bool) (x : Nat) (hx : x < M.length) : Meets Tryz.prog 82 [dMB M] (.cons (avInt x) (.cons (.ptr 0 [.d]) .nil)) fun av X κ => av = avBool (M.getD x false) ∧ X = [dMB M] ∧ κ = [] := by
 have hn := dBools_nth hx
 have hxi : (x : Int) < M.length := by omega
 have hg : M[x]?.getD false = M[x] := by simp [hx]
 refine fb Tryz.func82 Tryz.ntmps82 [.tmp 3] fun w0 I0 F0 hF => ?_
 repeat first|refine n1 ?_|((first|refine rg 0 [0, 1] [0, 1] [] ?_|refine rg 1 [0, 1] [3] [] ?_);simp (maxSteps := 1000000) [hF, dMB, hn, hx, hxi])
 (try refine nr ?_);(repeat first|refine nb_ ?_|refine nl_ ?_);refine endK.o [3] [0] [] ?_;simp [hF, retK, covers, mpre, dMB, hg]
theorem indexFunc_m (ex : Bool) (ls : List Int) (M : List Bool) (hl : ls.length ≤ 100000000) (p : Int → Bool)
  (hg : ∀ i, (h : i < ls.length) → Meets Tryz.prog 82 [dMB M] (.cons (avInt ls[i]) (.cons (.ptr 0 [.d]) .nil)) fun av X κ => av = avBool (p ls[i]) ∧ X = [dMB M] ∧ κ = []) :
  Meets Tryz.prog 94 [.sl true () 1 (dInts ls), dMB M] (.cons (.sub 0 [] 0 ls.length ex) (.cons (.fn 82 (.cons (.ptr 1 [.d]) .nil)) .nil))
  fun av X κ => av = avInt (ixF p ls) ∧ X = [.sl true () 1 (dInts ls), dMB M] ∧ κ = [] := by
 refine fb Tryz.func94 Tryz.ntmps94 [.tmp 4] fun w0 I0 F0 hF => ?_
 repeat first|refine n1 ?_|refine n3 ?_|((first|refine rg 0 [0, 1] [0, 1] [] ?_|refine rg 1 [0, 1] [0, 1, 7, 8] [] ?_);simp (maxSteps := 1000000) [hF, dMB])
 refine VS.rounds (fun m st => ∃ (i : Nat), i + m = ls.length ∧ (∀ j, (h : j < ls.length) → j < i → p ls[j] = false) ∧ st = ⟨[(0, .sub 0 [] 0 ls.length ex), (1, .fn 82 (.cons (.ptr 1 [.d]) .nil)), (7, avInt ls.length), (8, avInt i)], [.sl true () 1 (dInts ls), dMB M], [], []⟩) ⟨ls.length, 0, by omega, by omega, by simp [dMB]⟩ ?_
 rintro m st ⟨i, hi, hall, rfl⟩
 repeat first|refine n1 ?_|((first|refine rg 2 [0, 1, 7, 8] [0, 1, 7, 8, 9] [] ?_|refine nc ?_);simp (maxSteps := 1000000) [hF, dMB])
 refine ⟨fun hlt => ?_, fun hge => ?_⟩
 ·have hi' : i < ls.length := by omega
  have hn := dInts_nth hi'
  have hw : IntKind.i64.wrap ((i : Int) + 1) = (i + 1 : Nat) := by rw [IntWalk.i64_in _ (by omega)]; rfl
  repeat first|refine n1 ?_|refine n2 ?_|refine n3 ?_|((first|refine rg 3 [0, 1, 7, 8] [0, 1, 5, 7, 8] [] ?_|refine rg 4 [0, 1, 5, 7, 8] [0, 1, 5, 7, 8, 16] [] ?_);simp (maxSteps := 1000000) [hF, hn, hi', dMB])
  refine (hg i hi').go [(1, [])] (by simp (maxSteps := 1000000) [hF, dMB]) ?_;rintro av X κ ⟨rfl, rfl, rfl⟩;simp (maxSteps := 1000000) [hF, dMB]
  cases hp : p ls[i] with
  | true =>
   have hr : ixF p ls = i := ixF_hit hi' (fun j h => hall j (by omega) h) hp
   repeat first|refine n1 ?_|((first|refine rg 5 [5] [4] [] ?_|refine nc ?_);simp (maxSteps := 1000000) [hF, hp])
   (try refine nr ?_);(repeat first|refine nb_ ?_|refine nl_ ?_);refine endK.o [4] [0, 1] [] ?_;simp [hF, retK, covers, mpre, hr, dMB]
  | false =>
   repeat first|refine n2 ?_|refine n4 ?_|refine n5 ?_|refine n6 ?_|((first|refine rg 6 [0, 1, 7, 8] [0, 1, 7, 8] [] ?_|refine nc ?_);simp (maxSteps := 1000000) [hF, hp, hw])
   refine nextK.of [0, 1, 7, 8] [0, 1] (m - 1) (by omega) (by simp [hF]) ?_
   refine ⟨i + 1, by omega, ?_, by simp [dMB]⟩
   intro j hj hji
   rcases Nat.lt_or_ge j i with h' | h'
   ·exact hall j hj h'
   ·obtain rfl : j = i := by omega
    exact hp
 ·have hr : ixF p ls = -1 := ixF_miss (fun j h => hall j h (by omega))
  repeat first|refine n1 ?_|refine n7 ?_|(refine rg 7 [] [4] [] ?_;simp (maxSteps := 1000000) [hF])
  (try refine nr ?_);(repeat first|refine nb_ ?_|refine nl_ ?_);refine endK.o [4] [0, 1] [] ?_;simp [hF, retK, covers, mpre, hr, dMB]
theorem deleteFunc_m (ex : Bool) (ls : List Int) (M : List Bool) (hl : ls.length ≤ 100000000) (p : Int → Bool)
  (hg : ∀ i, (h : i < ls.length) → Meets Tryz.prog 82 [dMB M] (.cons (avInt ls[i]) (.cons (.ptr 0 [.d]) .nil)) fun av X κ => av = avBool (p ls[i]) ∧ X = [dMB M] ∧ κ = []) :
  Meets Tryz.prog 81 [.sl true () 1 (dInts ls), dMB M] (.cons (.sub 0 [] 0 ls.length ex) (.cons (.fn 82 (.cons (.ptr 1 [.d]) .nil)) .nil))
  fun av X κ => ∃ e z, (ex = false → e = false) ∧ av = .sub 0 [] 0 (ls.filter fun x => !p x).length e ∧ X = [.sl true () 1 (dInts ((ls.filter fun x => !p x) ++ z)), dMB M] ∧ κ = [(0, [.i 0])] := by
 refine fb Tryz.func81 Tryz.ntmps81 [.tmp 4] fun w0 I0 F0 hF => ?_
 repeat first|refine n1 ?_|((first|refine rg 0 [0, 1] [0, 1] [] ?_|refine rg 1 [0, 1] [0, 1, 5] [] ?_);simp (maxSteps := 1000000) [hF, dMB])
 refine (indexFunc_m ex ls M hl p hg).go [(0, []), (1, [])] (by simp (maxSteps := 1000000) [hF, dMB]) ?_;rintro av X κ ⟨rfl, rfl, rfl⟩;simp (maxSteps := 1000000) [hF, dMB]
 by_cases ha : ls.any p = true
 ·obtain ⟨i, hi, hix, hpi, hpre⟩ := ixF_some ha
  have hw : IntKind.i64.wrap ((i : Int) + 1) = (i + 1 : Nat) := by rw [IntWalk.i64_in _ (by omega)]; rfl
  have hti : (ls.take (i + 1)).filter (fun x => !p x) = ls.take i := by
   rw [List.take_add_one, List.filter_append, List.getElem?_eq_getElem hi]
   rw [List.filter_eq_self.2 fun x hx => by
    obtain ⟨j, hj, rfl⟩ := List.mem_take_iff_getElem.1 hx
    simpa using hpre j (by omega)]
   simp [hpi]
  repeat first|refine n1 ?_|refine n2 ?_|refine n3 ?_|((first|refine rg 2 [0, 1, 5] [0, 1, 5, 12] [] ?_|refine rg 4 [0, 1, 5] [0, 1, 5, 6] [] ?_|refine nc ?_);simp (maxSteps := 1000000) [hF, hix, hw])
  refine VS.rounds (fun m st => ∃ (j : Nat) (mid : List Int), j + m = ls.length ∧ ((ls.take j).filter fun x => !p x).length + mid.length = j ∧ 0 < mid.length ∧ st = ⟨[(0, .sub 0 [] 0 ls.length ex), (1, .fn 82 (.cons (.ptr 1 [.d]) .nil)), (5, avInt ((ls.take j).filter fun x => !p x).length), (6, avInt j)], [.sl true () 1 (dInts (((ls.take j).filter fun x => !p x) ++ mid ++ ls.drop j)), dMB M], [], []⟩) ⟨ls.length - (i + 1), i + 1, [ls[i]], by omega, by rw [hti]; simp; omega, by simp, by
   rw [hti]
   have e : ls.take i ++ [ls[i]] ++ ls.drop (i + 1) = ls := by simp
   rw [e]
   simp [Nat.min_eq_left (Nat.le_of_lt hi), dMB]⟩ ?_
  rintro m st ⟨j, mid, hj, hk, hmd, rfl⟩
  repeat first|refine n1 ?_|((first|refine rg 5 [0, 1, 5, 6] [0, 1, 5, 6, 19] [] ?_|refine nc ?_);simp (maxSteps := 1000000) [hF, dMB])
  refine ⟨fun hlt => ?_, fun hge => ?_⟩
  ·have hn : (dInts (((ls.take j).filter fun x => !p x) ++ (mid ++ ls.drop j))).nth j = .val (.int .i64 ls[j]) := by
    rw [dInts_nth (by simp; omega)]
    have : (((ls.take j).filter fun x => !p x) ++ (mid ++ ls.drop j))[j]? = some ls[j] := by
     rw [List.getElem?_append_right (by omega), List.getElem?_append_right (by omega), List.getElem?_drop, List.getElem?_eq_getElem (by omega)]
     congr 2; omega
    rw [(List.getElem_eq_iff _).2 this]
   have hw1 : IntKind.i64.wrap ((j : Int) + 1) = (j + 1 : Nat) := by rw [IntWalk.i64_in _ (by omega)]; rfl
   have ht1 : ls.take (j + 1) = ls.take j ++ [ls[j]] := by rw [List.take_add_one, List.getElem?_eq_getElem hlt]; rfl
   have hd1 : ls.drop j = ls[j] :: ls.drop (j + 1) := List.drop_eq_getElem_cons hlt
   repeat first|refine n1 ?_|refine n2 ?_|refine n3 ?_|((first|refine rg 7 [0, 1, 5, 6] [0, 1, 5, 6, 7] [] ?_|refine rg 8 [0, 1, 5, 6, 7] [0, 1, 5, 6, 7, 29] [] ?_);simp (maxSteps := 1000000) [hF, hn, hlt, dMB])
   refine (hg j hlt).go [(1, [])] (by simp (maxSteps := 1000000) [hF, dMB]) ?_;rintro av X κ ⟨rfl, rfl, rfl⟩;simp (maxSteps := 1000000) [hF, dMB]
   cases hp : p ls[j] with
   | true =>
    have hf1 : (ls.take (j + 1)).filter (fun x => !p x) = (ls.take j).filter (fun x => !p x) := by rw [ht1, List.filter_append]; simp [hp]
    repeat first|refine n2 ?_|refine n4 ?_|refine n5 ?_|refine n6 ?_|((first|refine rg 6 [0, 1, 5, 6] [0, 1, 5, 6] [] ?_|refine nc ?_);simp (maxSteps := 1000000) [hF, hp, hw1])
    refine nextK.of [0, 1, 5, 6] [0, 1] (m - 1) (by omega) (by simp [hF]) ?_
    refine ⟨j + 1, mid ++ [ls[j]], by omega, by rw [hf1]; simp; omega, by simp, ?_⟩
    rw [hf1, hd1]
    simp [dMB]
   | false =>
    have hf1 : (ls.take (j + 1)).filter (fun x => !p x) = (ls.take j).filter (fun x => !p x) ++ [ls[j]] := by rw [ht1, List.filter_append]; simp [hp]
    have hw2 : IntKind.i64.wrap ((((ls.take j).filter fun x => !p x).length : Int) + 1) = (((ls.take j).filter fun x => !p x).length + 1 : Nat) := by rw [IntWalk.i64_in _ (by omega)]; rfl
    have hkl : ((ls.take j).filter fun x => !p x).length < ls.length := by omega
    have hset : (dInts (((ls.take j).filter fun x => !p x) ++ (mid ++ ls.drop j))).setN ((ls.take j).filter fun x => !p x).length (.val (.int .i64 ls[j])) = dInts (((ls.take j).filter fun x => !p x) ++ (ls[j] :: (mid.tail ++ ls.drop j))) := by
     rw [dInts_setN, set_mid hmd]
    obtain ⟨v0, hnk⟩ : ∃ v0, (dInts (((ls.take j).filter fun x => !p x) ++ (mid ++ ls.drop j))).nth ((ls.take j).filter fun x => !p x).length = .val (.int .i64 v0) := ⟨_, dInts_nth (by simp; omega)⟩
    have hpos : 0 < mid.length + (ls.length - j) := by omega
    repeat first|refine n1 ?_|refine n4 ?_|refine n5 ?_|refine n6 ?_|((first|refine rg 6 [0, 1, 5, 6] [0, 1, 5, 6] [] ?_|refine rg 9 [0, 1, 5, 6, 7] [0, 1, 5, 6] [] ?_|refine rg 10 [0, 1, 5, 6] [0, 1, 5, 6] [] ?_|refine nc ?_);simp (maxSteps := 1000000) [hF, hp, hw1, hw2, hkl, hset, hnk, hpos])
    refine nextK.of [0, 1, 5, 6] [0, 1] (m - 1) (by omega) (by simp [hF]) ?_
    refine ⟨j + 1, mid.tail ++ [ls[j]], by omega, by rw [hf1]; simp; omega, by simp, ?_⟩
    rw [hf1, hd1]
    simp [dMB]
  ·have hjl : j = ls.length := by omega
   subst hjl
   rw [List.take_of_length_le (Nat.le_refl _)] at hk
   simp only [List.take_of_length_le (Nat.le_refl _), List.drop_of_length_le (Nat.le_refl _)] 
   have hkl : (ls.filter fun x => !p x).length ≤ ls.length := by omega
   have htk : ((dInts ((ls.filter fun x => !p x) ++ mid)).take (ls.filter fun x => !p x).length).app (sq (List.replicate (ls.length - (ls.filter fun x => !p x).length) (.val (.int .i64 0)))) = dInts ((ls.filter fun x => !p x) ++ List.replicate (ls.length - (ls.filter fun x => !p x).length) 0) := by
    have e : (dInts ((ls.filter fun x => !p x) ++ mid)).take (ls.filter fun x => !p x).length = dInts (ls.filter fun x => !p x) := by
     have := ints_mid ((ls.filter fun x => !p x) ++ mid) 0 (ls.filter fun x => !p x).length
     simpa [T.mid, T.drop] using this
    have e2 : (sq (List.replicate (ls.length - (ls.filter fun x => !p x).length) (.val (.int .i64 0))) : D) = dInts (List.replicate (ls.length - (ls.filter fun x => !p x).length) 0) := by simp [dInts, dInt]
    rw [e, e2, dInts_app]
   repeat first|refine n1 ?_|refine n7 ?_|((first|refine rg 11 [0, 5] [0, 5] [] ?_|refine rg 12 [0, 5] [4] [] ?_);simp (maxSteps := 1000000) [hF, hkl, hk, htk])
   (try refine nr ?_);(repeat first|refine nb_ ?_|refine nl_ ?_);refine endK.o [4] [0, 1] [(0, [.i 0])] ?_;simp [hF, retK, covers, mpre, htk, dMB]
   exact ⟨_, rfl⟩
 ·have hix : ixF p ls = -1 := by rw [ixF, if_neg ha]
  have hfi : (ls.filter fun x => !p x) = ls := List.filter_eq_self.2 fun x hx => by
   cases hp : p x with
   | false => rfl
   | true => exact absurd (List.any_eq_true.2 ⟨x, hx, hp⟩) ha
  repeat first|refine n1 ?_|((first|refine rg 2 [0, 1, 5] [0, 1, 5, 12] [] ?_|refine rg 3 [0] [4] [] ?_|refine nc ?_);simp (maxSteps := 1000000) [hF, hix])
  refine VS.widen [(0, [.i 0])] (by simp [covers, mpre]) ?_
  (try refine nr ?_);(repeat first|refine nb_ ?_|refine nl_ ?_);refine endK.o [4] [0, 1] [(0, [.i 0])] ?_;simp [hF, retK, covers, mpre, hfi, dMB]
  cases ex with
  | false => exact .inl ⟨rfl, [], by simp⟩
  | true => exact .inr ⟨rfl, [], by simp⟩
end Go.Proofs.YtipokdbfdingmaaGreat

/- Books of grounds, plainly: units that fall, one by one. -/
namespace Go.Proofs.YtipokdbfdingmaaGreat
set_option linter.all false
open Go.Vc Go.Proofs
noncomputable def fallT (us : List Un) (S : Nat → Prop) (i : Nat) : List Un := (fallU us S).take i ++ us.drop i
@[simp] theorem fallU_len (us : List Un) (S : Nat → Prop) : (fallU us S).length = us.length := by simp [fallU]
theorem fallT_zero (us : List Un) (S : Nat → Prop) : fallT us S 0 = us := by simp [fallT]
theorem fallT_all (us : List Un) (S : Nat → Prop) : fallT us S us.length = fallU us S := by
  rw [fallT, List.drop_length, List.append_nil]
  exact List.take_of_length_le (by simp)
theorem fallT_len {us : List Un} {S : Nat → Prop} {i : Nat} (h : i ≤ us.length) : (fallT us S i).length = us.length := by
  simp [fallT]; omega
theorem fallT_at {us : List Un} {S : Nat → Prop} {i : Nat} (h : i < us.length) (h' : i < (fallT us S i).length) : (fallT us S i)[i] = us[i] := by
  have e : (fallT us S i)[i]? = us[i]? := by
    rw [fallT, List.getElem?_append_right (by rw [List.length_take]; exact Nat.min_le_left _ _), List.getElem?_drop]
    congr 1
    simp; omega
  rw [List.getElem?_eq_getElem h', List.getElem?_eq_getElem h, Option.some.injEq] at e
  exact e
theorem fallT_set {us : List Un} {S : Nat → Prop} {i : Nat} (h : i < us.length) {x : Un} (hx : (fallU us S)[i]? = some x) : (fallT us S i).set i x = fallT us S (i + 1) := by
  have hl : ((fallU us S).take i).length = i := by simp; omega
  rw [fallT, List.set_append, if_neg (by omega), hl, Nat.sub_self, List.drop_eq_getElem_cons h, List.set_cons_zero, fallT, List.take_add_one, hx]
  simp
theorem fallU_yes {us : List Un} {S : Nat → Prop} {i : Nat} (h : i < us.length) (hr : rcB us S i = true) : (fallU us S)[i]? = some ⟨false, [], []⟩ := by
  rw [fallU_at, List.getElem?_eq_getElem h, Option.map_some, if_pos hr]; rfl
theorem fallU_no {us : List Un} {S : Nat → Prop} {i : Nat} (h : i < us.length) (hr : rcB us S i = false) : (fallU us S)[i]? = some ⟨us[i].up, us[i].keys, us[i].inn.filter fun y => !rcB us S y⟩ := by
  rw [fallU_at, List.getElem?_eq_getElem h, Option.map_some, if_neg (by simp [hr])]
theorem nats_filter {l : List Nat} {p : Int → Bool} {q : Nat → Bool} (h : ∀ y ∈ l, p y = q y) : (nats l).filter (fun x => !p x) = nats (l.filter fun y => !q y) := by
  induction l with
  | nil => rfl
  | cons a l ih =>
    have ih := ih fun y hy => h y (by simp [hy])
    have ha := h a (by simp)
    simp only [nats, List.map_cons, List.filter_cons] at ih ⊢
    rw [ha]
    cases q a <;> simp [ih]
end Go.Proofs.YtipokdbfdingmaaGreat

/- The program lets units fall. -/
namespace Go.Proofs.YtipokdbfdingmaaGreat
set_option linter.all false
open Go.Vc Go.Proofs
set_option linter.unusedSimpArgs false
set_option linter.unusedVariables false
set_option maxRecDepth 100000
set_option maxHeartbeats 4000000
attribute [local irreducible] CallW EqK
theorem fall_c {n : Nat} (g : Gb) (b : Bk n g) (ex : Bool) (ws : List Nat) (hws : ∀ x ∈ ws, x < g.units.length) (hwl : ws.length ≤ 100000) (S : Nat → Prop) (hS : aboveOf g.units (· ∈ ws) = aboveOf g.units S) :
  Meets Tryz.prog 55 [.sl true () 1 (dInts (nats ws)), dBk g] (.cons (.ptr 1 [.d]) (.cons (.sub 0 [] 0 ws.length ex) .nil))
  fun av X κ => av = .sub 2 [] 0 (fallOf g S).2.length false ∧ X = [.sl true () 1 (dInts (nats ws)), dBk (fallOf g S).1, .sl true () 1 (dInts (nats (fallOf g S).2))] ∧ κ = [(1, [.d])] := by
 have hul := b.len
 have habove := Meets.loose (above_w g b ex ws hws hwl)
 rw [hS] at habove
 have hc1 : (fallOf g S).2 = numb (aboveOf g.units S) := rfl
 have hc2 : (fallOf g S).1.units = fallT g.units S g.units.length := (fallT_all _ _).symm
 have hc3 : (fallOf g S).1.ser = g.ser := rfl
 have h00 := fallT_zero g.units S
 have hbm : (dBools (aboveOf g.units S)).mid 0 g.units.length = dBools (aboveOf g.units S) := by have := dBools_mid_all (aboveOf g.units S); rwa [aboveOf_len] at this
 refine fb Tryz.func55 Tryz.ntmps55 [.tmp 4] fun w0 I0 F0 hF => ?_
 repeat first|refine n1 ?_|((first|refine rg 0 [0, 1] [0, 1] [] ?_|refine rg 1 [0, 1] [0, 5] [] ?_);simp (maxSteps := 1000000) [hF, dBk])
 refine (habove).go [(0, []), (1, [])] (by simp (maxSteps := 1000000) [hF, dBk]) ?_;rintro av X κ ⟨rfl, rfl, rfl⟩;simp (maxSteps := 1000000) [hF, dBk]
 repeat first|refine n1 ?_|refine n3 ?_|(refine rg 2 [0, 5] [0, 5, 15, 16] [] ?_;simp (maxSteps := 1000000) [hF, dBk, hbm])
 refine VS.pick [0, 5, 15, 16] [0, 1, 3] (by simp [hF]) ?_;simp [hF]
 refine VS.widen [(1, [.d])] (by simp [covers, mpre]) ?_
 refine VS.rounds (fun m st => ∃ (i : Nat), i + m = g.units.length ∧ st = ⟨[(0, .ptr 1 [.d]), (5, .ptr 2 [.d]), (15, avInt g.units.length), (16, avInt i)],
  [.sl true () 1 (dInts (nats ws)), dBk ⟨fallT g.units S i, g.ser⟩, dMB (aboveOf g.units S)], [(1, [.d])], []⟩) ⟨g.units.length, 0, by omega, by simp [dBk, dMB, h00, hbm]⟩ ?_
 rintro m st ⟨i, hi, rfl⟩
 repeat first|refine n1 ?_|((first|refine rg 3 [0, 5, 15, 16] [0, 5, 15, 16, 17] [] ?_|refine nc ?_);simp (maxSteps := 1000000) [hF, dBk, dMB])
 refine ⟨fun hlt => ?_, fun hge => ?_⟩
 ·have hi' : i < g.units.length := by omega
  have hTl : (fallT g.units S i).length = g.units.length := fallT_len (by omega)
  have hiT : i < (fallT g.units S i).length := by omega
  have hat := fallT_at (S := S) hi' hiT
  have hn := dUns_nth (o := true) hiT
  simp only [hat] at hn
  have hsm := dUns_same (o := true) hiT rfl
  simp only [hat] at hsm
  have hiA : i < (aboveOf g.units S).length := by simpa using hi'
  have hbn := dBools_nth hiA
  rw [aboveOf_at hi'] at hbn
  have hw : IntKind.i64.wrap ((i : Int) + 1) = (i + 1 : Nat) := by rw [IntWalk.i64_in _ (by omega)]; rfl
  have hii : (i : Int) < g.units.length := by omega
  cases hr : rcB g.units S i with
  | true =>
   rw [hr] at hbn
   have hset := dUns_set true (fallT g.units S i) i false [] []
   rw [fallT_set hi' (fallU_yes hi' hr)] at hset
   simp only [nats_nil, dNil_ints, strs_nil] at hset
   repeat first|refine n1 ?_|refine n2 ?_|refine n3 ?_|refine n7 ?_|refine n8 ?_|((first|refine rg 4 [0, 5, 15, 16] [0, 5, 6, 15, 16] [] ?_|refine rg 5 [0, 5, 6, 15, 16] [0, 5, 6, 15, 16, 22] [] ?_|refine rg 6 [0, 5, 6, 15, 16] [0, 5, 15, 16] [] ?_|refine nc ?_);simp (maxSteps := 1000000) [hF, dBk, dMB, hbn, hi', hii, hiA, hn, hTl, hiT, hset, hw])
   refine VS.widen [(1, [.d])] (by simp [covers, mpre]) ?_
   repeat first|refine n4 ?_|refine n6 ?_|(refine rg 9 [0, 5, 15, 16] [0, 5, 15, 16] [] ?_;simp (maxSteps := 1000000) [hF, hw])
   refine nextK.of [0, 5, 15, 16] [0, 1, 2] (m - 1) (by omega) (by simp [hF]) ?_
   exact ⟨i + 1, by omega, by simp [dBk, dMB]⟩
  | false =>
   rw [hr] at hbn
   have hin := (b.ins _ (List.getElem_mem hi'))
   have hil := b.inLen i
   rw [innOf_at hi'] at hil
   have hf := nats_filter (l := g.units[i].inn) (p := fun x => (aboveOf g.units S).getD x.toNat false) (q := rcB g.units S) fun y hy => by
    have hy' := hin.2 y hy
    show (aboveOf g.units S).getD ((y : Int).toNat) false = _
    rw [show (y : Int).toNat = y from rfl, getD_at (by simpa using hy'), aboveOf_at hy']
   have hset := dUns_set true (fallT g.units S i) i g.units[i].up g.units[i].keys (g.units[i].inn.filter fun y => !rcB g.units S y)
   rw [fallT_set hi' (fallU_no hi' hr)] at hset
   have hpre : ∀ z, (dInts (nats (g.units[i].inn.filter fun y => !rcB g.units S y) ++ z)).mid 0 (g.units[i].inn.filter fun y => !rcB g.units S y).length = dInts (nats (g.units[i].inn.filter fun y => !rcB g.units S y)) := fun z => by
    rw [ints_mid, List.drop_zero, List.take_append_of_le_length (by simp), List.take_of_length_le (by simp)]
   have hdel := deleteFunc_m false (nats g.units[i].inn) (aboveOf g.units S) (by simp; omega) (fun x => (aboveOf g.units S).getD x.toNat false) fun j hj => by
    have hjl : j < g.units[i].inn.length := by simpa using hj
    have hy := hin.2 _ (List.getElem_mem hjl)
    have e := nats_at hj
    rw [e]
    exact gone_ok (aboveOf g.units S) _ (by simpa using hy)
   rw [hf, nats_len, nats_len] at hdel
   have hdel := Meets.mono hdel (R' := fun av X κ => ∃ z, av = .sub 0 [] 0 (g.units[i].inn.filter fun y => !rcB g.units S y).length false ∧ X = [.sl true () 1 (dInts (nats (g.units[i].inn.filter fun y => !rcB g.units S y) ++ z)), dMB (aboveOf g.units S)] ∧ κ = [(0, [.i 0])]) (by
    rintro av X κ ⟨e, z, he, rfl, rfl, rfl⟩
    rw [he rfl]
    exact ⟨z, rfl, rfl, rfl⟩)
   repeat first|refine n1 ?_|refine n2 ?_|refine n3 ?_|((first|refine rg 4 [0, 5, 15, 16] [0, 5, 6, 15, 16] [] ?_|refine rg 5 [0, 5, 6, 15, 16] [0, 5, 6, 15, 16, 22] [] ?_|refine rg 7 [0, 5, 6, 15, 16] [0, 5, 7, 15, 16] [] ?_|refine rg 8 [0, 5, 7, 15, 16] [0, 5, 15, 16] [] ?_|refine nc ?_);simp (maxSteps := 1000000) [hF, dBk, dMB, hbn, hi', hii, hiA, hn, hTl, hiT, hw])
   refine (clone_c false (nats g.units[i].inn) (by simp; omega)).go [(1, [.d, .f 0, .i i, .f 2])] (by simp (maxSteps := 1000000) [hF, dBk, dMB, hn, hi', hii, hTl, hiT, hsm]) ?_;rintro av X κ ⟨rfl, rfl, rfl⟩;simp (maxSteps := 1000000) [hF, dBk, dMB, hn, hi', hii, hTl, hiT, hsm]
   refine (hdel).go [(3, []), (2, [])] (by simp (maxSteps := 1000000) [hF, dBk, dMB, hn, hi', hii, hTl, hiT, hset, hpre]) ?_;rintro av X κ ⟨z, rfl, rfl, rfl⟩;simp (maxSteps := 1000000) [hF, dBk, dMB, hn, hi', hii, hTl, hiT, hset, hpre]
   repeat first|refine n4 ?_|refine n5 ?_
   refine VS.widen [(1, [.d])] (by simp [covers, mpre]) ?_
   repeat first|refine n4 ?_|refine n6 ?_|(refine rg 9 [0, 5, 15, 16] [0, 5, 15, 16] [] ?_;simp (maxSteps := 1000000) [hF, hw])
   refine nextK.of [0, 5, 15, 16] [0, 1, 2] (m - 1) (by omega) (by simp [hF]) ?_
   exact ⟨i + 1, by omega, by simp [dBk, dMB, hset]⟩
 ·have hil : i = g.units.length := by omega
  subst hil
  repeat first|refine n1 ?_|refine n7 ?_
  refine ghostL 2 [.d] ?_;simp (maxSteps := 1000000) [hF, St.lift, AV.lift, liftPl, stripP, nodeAV, isNode, dMB]
  repeat first|(refine rg 10 [5] [4] [] ?_;simp (maxSteps := 1000000) [hF])
  refine (marked_c false (aboveOf g.units S) (by simp; omega)).go [(3, [])] (by simp (maxSteps := 1000000) [hF, dBk]) ?_;rintro av X κ ⟨rfl, rfl, rfl⟩;simp (maxSteps := 1000000) [hF, dBk]
  (try refine nr ?_);(repeat first|refine nb_ ?_|refine nl_ ?_);refine endK.o [4] [0, 1, 4] [(1, [.d])] ?_;simp [hF, retK, covers, mpre, dBk, hc1, hc2, hc3]
theorem drop_c {n : Nat} (g : Gb) (b : Bk n g) (u : Int) : Meets Tryz.prog 36 [dBk g] (.cons (.ptr 0 [.d]) (.cons (avInt u) .nil))
  fun av X κ => av = avTwo (.sub 1 [] 0 (dropOf g u).2.1.length false) (dropOf g u).2.2 ∧ X = [dBk (dropOf g u).1, .sl true () 1 (dInts (nats (dropOf g u).2.1))] ∧ κ = [(0, [.d])] := by
 cases hh : hasB g u with
 | false =>
  have hc : dropOf g u = (g, [], 1) := by simp [dropOf, hh]
  refine fb Tryz.func36 Tryz.ntmps36 [.tmp 4, .tmp 5] fun w0 I0 F0 hF => ?_
  repeat first|refine n1 ?_|((first|refine rg 0 [0, 1] [0, 1] [] ?_|refine rg 1 [0, 1] [0, 1, 9] [] ?_);simp (maxSteps := 1000000) [hF, dBk])
  refine (has_c g u).go [(0, [])] (by simp (maxSteps := 1000000) [hF, dBk, hh]) ?_;rintro av X κ ⟨rfl, rfl, rfl⟩;simp (maxSteps := 1000000) [hF, dBk, hh]
  repeat first|refine n1 ?_|((first|refine rg 2 [] [4, 5] [] ?_|refine nc ?_);simp (maxSteps := 1000000) [hF])
  refine VS.widen [(0, [.d])] (by simp [covers, mpre]) ?_
  refine VS.hold0 4 1 (by simp) ?_
  (try refine nr ?_);(repeat first|refine nb_ ?_|refine nl_ ?_);refine endK.o [4, 5] [0, 1] [(0, [.d])] ?_;simp [hF, retK, covers, mpre, dBk, hc]
 | true =>
  obtain ⟨i, hi, rfl, hu, _⟩ := unOf_mem hh
  have hn := dUns_nth (o := true) hi
  have hii : (i : Int) < g.units.length := by omega
  cases hup : g.units[i].up with
  | false =>
   have hc : dropOf g i = (g, [], 8) := by simp [dropOf, hh, hu, hup]
   refine fb Tryz.func36 Tryz.ntmps36 [.tmp 4, .tmp 5] fun w0 I0 F0 hF => ?_
   repeat first|refine n1 ?_|((first|refine rg 0 [0, 1] [0, 1] [] ?_|refine rg 1 [0, 1] [0, 1, 9] [] ?_);simp (maxSteps := 1000000) [hF, dBk])
   refine (has_c g i).go [(0, [])] (by simp (maxSteps := 1000000) [hF, dBk, hh]) ?_;rintro av X κ ⟨rfl, rfl, rfl⟩;simp (maxSteps := 1000000) [hF, dBk, hh]
   repeat first|refine n1 ?_|refine n2 ?_|((first|refine rg 3 [0, 1] [0, 1, 18] [] ?_|refine rg 4 [] [4, 5] [] ?_|refine nc ?_);simp (maxSteps := 1000000) [hF, dBk, hn, hi, hii, hup])
   refine VS.widen [(0, [.d])] (by simp [covers, mpre]) ?_
   refine VS.hold0 4 1 (by simp) ?_
   (try refine nr ?_);(repeat first|refine nb_ ?_|refine nl_ ?_);refine endK.o [4, 5] [0, 1] [(0, [.d])] ?_;simp [hF, retK, covers, mpre, dBk, hc]
  | true =>
   have hc : dropOf g i = ((fallOf g fun x => x = i).1, (fallOf g fun x => x = i).2, 0) := by simp [dropOf, hh, hu, hup]
   have h1 : dInts (nats [i]) = .cons (.val (.int .i64 i)) .nil := rfl
   have hfall := fall_c g b true [i] (fun x hx => by rw [List.mem_singleton.1 hx]; exact hi) (by simp) (fun x => x = i) (above_one _ _)
   rw [h1] at hfall
   refine fb Tryz.func36 Tryz.ntmps36 [.tmp 4, .tmp 5] fun w0 I0 F0 hF => ?_
   repeat first|refine n1 ?_|((first|refine rg 0 [0, 1] [0, 1] [] ?_|refine rg 1 [0, 1] [0, 1, 9] [] ?_);simp (maxSteps := 1000000) [hF, dBk])
   refine (has_c g i).go [(0, [])] (by simp (maxSteps := 1000000) [hF, dBk, hh]) ?_;rintro av X κ ⟨rfl, rfl, rfl⟩;simp (maxSteps := 1000000) [hF, dBk, hh]
   repeat first|refine n1 ?_|refine n2 ?_|((first|refine rg 3 [0, 1] [0, 1, 18] [] ?_|refine rg 5 [0, 1] [4, 5] [] ?_|refine nc ?_);simp (maxSteps := 1000000) [hF, dBk, hn, hi, hii, hup])
   refine (hfall).go [(1, []), (0, [])] (by simp (maxSteps := 1000000) [hF, dBk]) ?_;rintro av X κ ⟨rfl, rfl, rfl⟩;simp (maxSteps := 1000000) [hF, dBk]
   (try refine nr ?_);(repeat first|refine nb_ ?_|refine nl_ ?_);refine endK.o [4, 5] [0, 2] [(0, [.d])] ?_;simp [hF, retK, covers, mpre, dBk, hc]
theorem move_c {n : Nat} (g : Gb) (b : Bk n g) (hn : n ≤ 1000000) (k : ByteArray) : Meets Tryz.prog 21 [dBk g] (.cons (.ptr 0 [.d]) (.cons (avStr k) .nil))
  fun av X κ => av = avTwo (.sub 1 [] 0 (moveOf g k).2.1.length false) (moveOf g k).2.2 ∧ X = [dBk (moveOf g k).1, .sl true () 1 (dInts (nats (moveOf g k).2.1))] ∧ κ = [(0, [.d])] := by
 cases hk : isKeyB k with
 | false =>
  have hc : moveOf g k = (g, [], 6) := by simp [moveOf, hk]
  refine fb Tryz.func21 Tryz.ntmps21 [.tmp 4, .tmp 5] fun w0 I0 F0 hF => ?_
  repeat first|refine n1 ?_|((first|refine rg 0 [0, 1] [0, 1] [] ?_|refine rg 1 [0, 1] [0, 1, 8] [] ?_);simp (maxSteps := 1000000) [hF, dBk])
  refine (real_c g).go [(0, [])] (by simp (maxSteps := 1000000) [hF, dBk]) ?_;rintro av X κ ⟨rfl, rfl, rfl⟩;simp (maxSteps := 1000000) [hF, dBk]
  repeat first|refine n1 ?_|refine n2 ?_|((first|refine rg 3 [0, 1] [0, 1, 11] [] ?_|refine nc ?_);simp (maxSteps := 1000000) [hF])
  refine (isKey_ok k).go [] (by simp (maxSteps := 1000000) [hF, hk]) ?_;rintro av X κ ⟨rfl, rfl, rfl⟩;simp (maxSteps := 1000000) [hF, hk]
  repeat first|refine n1 ?_|((first|refine rg 4 [] [4, 5] [] ?_|refine nc ?_);simp (maxSteps := 1000000) [hF, hk])
  refine VS.widen [(0, [.d])] (by simp [covers, mpre]) ?_
  refine VS.hold0 4 1 (by simp) ?_
  (try refine nr ?_);(repeat first|refine nb_ ?_|refine nl_ ?_);refine endK.o [4, 5] [0, 1] [(0, [.d])] ?_;simp [hF, retK, covers, mpre, dBk, hc]
 | true =>
  have hc : moveOf g k = ((fallOf { g with ser := bump g.ser k } (relyB g.units k)).1, (fallOf g (relyB g.units k)).2, 0) := by simp [moveOf, hk]
  have hb : Bk (n + 1) { g with ser := bump g.ser k } := b_bump b k
  have hput := dSer_put b.ser k
  have hf := dSer_find g.ser k
  have hv0 : 0 ≤ serOf g.ser k ∧ serOf g.ser k ≤ n := by
   unfold serOf
   cases hs : g.ser.find? fun p => decide (p.1 = k) with
   | none => simp
   | some p => exact b.moved.2 p (List.mem_of_find?_eq_some hs)
  have hw : IntKind.i64.wrap (serOf g.ser k + 1) = serOf g.ser k + 1 := IntWalk.i64_in _ (by omega)
  have hfall := fall_c { g with ser := bump g.ser k } hb false (relyL g.units k) (relyL_s g.units k) (by have := relyL_len g.units k; have := b.len; omega) (relyB g.units k) (above_rely _ _)
  have hrely := relying_ok { g with ser := bump g.ser k } hb k
  have hfa : (fallOf { g with ser := bump g.ser k } (relyB g.units k)).2 = (fallOf g (relyB g.units k)).2 := rfl
  refine fb Tryz.func21 Tryz.ntmps21 [.tmp 4, .tmp 5] fun w0 I0 F0 hF => ?_
  repeat first|refine n1 ?_|((first|refine rg 0 [0, 1] [0, 1] [] ?_|refine rg 1 [0, 1] [0, 1, 8] [] ?_);simp (maxSteps := 1000000) [hF, dBk])
  refine (real_c g).go [(0, [])] (by simp (maxSteps := 1000000) [hF, dBk]) ?_;rintro av X κ ⟨rfl, rfl, rfl⟩;simp (maxSteps := 1000000) [hF, dBk]
  repeat first|refine n1 ?_|refine n2 ?_|((first|refine rg 3 [0, 1] [0, 1, 11] [] ?_|refine nc ?_);simp (maxSteps := 1000000) [hF])
  refine (isKey_ok k).go [] (by simp (maxSteps := 1000000) [hF, hk]) ?_;rintro av X κ ⟨rfl, rfl, rfl⟩;simp (maxSteps := 1000000) [hF, hk]
  repeat first|refine n1 ?_|refine n2 ?_|(refine nc ?_;simp (maxSteps := 1000000) [hF, hk])
  refine ghostL 0 [.d, .f 1] ?_;simp (maxSteps := 1000000) [hF, St.lift, AV.lift, liftPl, stripP, nodeAV, isNode, dBk]
  cases hs : g.ser.find? fun p => decide (p.1 = k) with
  | none =>
   have hv : serOf g.ser k = 0 := by rw [serOf, hs]; rfl
   rw [hs] at hf
   rw [hv] at hput hw
   simp only [Int.zero_add] at hput hw
   repeat first|refine n1 ?_|(refine rg 5 [0, 1] [0, 1] [] ?_;simp (maxSteps := 1000000) [hF, hf, hput, hw, isKey_str])
   refine VS.settle 0 [.d, .f 1] (.mp 1 []) (by simp) (by simp) (by simp [hF, Tk.tree]) (by simp [hF, Tk.tree]) ?_
   simp [hF, St.settle, Tk.tree]
   repeat first|(refine rg 6 [0, 1] [4, 5] [] ?_;simp (maxSteps := 1000000) [hF, dBk])
   refine (hrely).go [(0, [])] (by simp (maxSteps := 1000000) [hF, dBk]) ?_;rintro av X κ ⟨rfl, rfl, rfl⟩;simp (maxSteps := 1000000) [hF, dBk]
   refine (hfall).go [(2, []), (0, [])] (by simp (maxSteps := 1000000) [hF, dBk]) ?_;rintro av X κ ⟨rfl, rfl, rfl⟩;simp (maxSteps := 1000000) [hF, dBk]
   (try refine nr ?_);(repeat first|refine nb_ ?_|refine nl_ ?_);refine endK.o [4, 5] [0, 3] [(0, [.d])] ?_;simp [hF, retK, covers, mpre, dBk, hc, hfa]
  | some p =>
   have hv : serOf g.ser k = p.2 := by rw [serOf, hs]; rfl
   rw [hs] at hf
   rw [hv] at hput hw
   repeat first|refine n1 ?_|(refine rg 5 [0, 1] [0, 1] [] ?_;simp (maxSteps := 1000000) [hF, hf, hput, hw, isKey_str])
   refine VS.settle 0 [.d, .f 1] (.mp 1 []) (by simp) (by simp) (by simp [hF, Tk.tree]) (by simp [hF, Tk.tree]) ?_
   simp [hF, St.settle, Tk.tree]
   repeat first|(refine rg 6 [0, 1] [4, 5] [] ?_;simp (maxSteps := 1000000) [hF, dBk])
   refine (hrely).go [(0, [])] (by simp (maxSteps := 1000000) [hF, dBk]) ?_;rintro av X κ ⟨rfl, rfl, rfl⟩;simp (maxSteps := 1000000) [hF, dBk]
   refine (hfall).go [(2, []), (0, [])] (by simp (maxSteps := 1000000) [hF, dBk]) ?_;rintro av X κ ⟨rfl, rfl, rfl⟩;simp (maxSteps := 1000000) [hF, dBk]
   (try refine nr ?_);(repeat first|refine nb_ ?_|refine nl_ ?_);refine endK.o [4, 5] [0, 3] [(0, [.d])] ?_;simp [hF, retK, covers, mpre, dBk, hc, hfa]
theorem renew_c {n : Nat} (g : Gb) (b : Bk n g) (u : Int) (ex : Bool) (l : List ByteArray) (h0 : 0 < l.length) (hl : l.length ≤ 100000) : Meets Tryz.prog 34 [dBk g] (.cons (.ptr 0 [.d]) (.cons (avInt u) (.cons (.imm 1 (strs l) ex) .nil)))
  fun av X κ => av = avInt (renewOf g u l).2 ∧ X = [dBk (renewOf g u l).1] ∧ κ = [(0, [.d])] := by
 cases hh : hasB g u with
 | false =>
  have hc : renewOf g u l = (g, 1) := by simp [renewOf, hh]
  refine fb Tryz.func34 Tryz.ntmps34 [.tmp 6] fun w0 I0 F0 hF => ?_
  repeat first|refine n1 ?_|((first|refine rg 0 [0, 1, 2] [0, 1, 2] [] ?_|refine rg 1 [0, 1, 2] [0, 1, 2, 13] [] ?_);simp (maxSteps := 1000000) [hF, dBk])
  refine (has_c g u).go [(0, [])] (by simp (maxSteps := 1000000) [hF, dBk, hh]) ?_;rintro av X κ ⟨rfl, rfl, rfl⟩;simp (maxSteps := 1000000) [hF, dBk, hh]
  repeat first|refine n1 ?_|((first|refine rg 2 [] [6] [] ?_|refine nc ?_);simp (maxSteps := 1000000) [hF])
  refine VS.widen [(0, [.d])] (by simp [covers, mpre]) ?_
  (try refine nr ?_);(repeat first|refine nb_ ?_|refine nl_ ?_);refine endK.o [6] [0] [(0, [.d])] ?_;simp [hF, retK, covers, mpre, dBk, hc]
 | true =>
  obtain ⟨i, hi, rfl, hu, _⟩ := unOf_mem hh
  have hn := dUns_nth (o := true) hi
  have hii : (i : Int) < g.units.length := by omega
  rcases keysE_cases l with he | he | he
  ·have hc : renewOf g i l = (g, 6) := by simp [renewOf, hh, he]
   refine fb Tryz.func34 Tryz.ntmps34 [.tmp 6] fun w0 I0 F0 hF => ?_
   repeat first|refine n1 ?_|((first|refine rg 0 [0, 1, 2] [0, 1, 2] [] ?_|refine rg 1 [0, 1, 2] [0, 1, 2, 13] [] ?_);simp (maxSteps := 1000000) [hF, dBk])
   refine (has_c g i).go [(0, [])] (by simp (maxSteps := 1000000) [hF, dBk, hh]) ?_;rintro av X κ ⟨rfl, rfl, rfl⟩;simp (maxSteps := 1000000) [hF, dBk, hh]
   repeat first|refine n1 ?_|refine n2 ?_|((first|refine rg 3 [0, 1, 2] [0, 1, 7, 8, 9] [] ?_|refine nc ?_);simp (maxSteps := 1000000) [hF])
   refine (keysOf_6 ex l h0 hl he).go [] (by simp (maxSteps := 1000000) [hF]) ?_;rintro av X κ ⟨rfl, rfl, rfl⟩;simp (maxSteps := 1000000) [hF]
   repeat first|refine n1 ?_|refine n3 ?_|((first|refine rg 4 [0, 1, 7, 8, 9] [0, 1, 7, 8, 9, 20] [] ?_|refine rg 5 [8] [6] [] ?_|refine nc ?_);simp (maxSteps := 1000000) [hF])
   refine VS.widen [(0, [.d])] (by simp [covers, mpre]) ?_
   (try refine nr ?_);(repeat first|refine nb_ ?_|refine nl_ ?_);refine endK.o [6] [0] [(0, [.d])] ?_;simp [hF, retK, covers, mpre, dBk, hc]
  ·cases hup : g.units[i].up with
   | true =>
    have hc : renewOf g i l = (g, 8) := by simp [renewOf, hh, he, hu, hup]
    refine fb Tryz.func34 Tryz.ntmps34 [.tmp 6] fun w0 I0 F0 hF => ?_
    repeat first|refine n1 ?_|((first|refine rg 0 [0, 1, 2] [0, 1, 2] [] ?_|refine rg 1 [0, 1, 2] [0, 1, 2, 13] [] ?_);simp (maxSteps := 1000000) [hF, dBk])
    refine (has_c g i).go [(0, [])] (by simp (maxSteps := 1000000) [hF, dBk, hh]) ?_;rintro av X κ ⟨rfl, rfl, rfl⟩;simp (maxSteps := 1000000) [hF, dBk, hh]
    repeat first|refine n1 ?_|refine n2 ?_|((first|refine rg 3 [0, 1, 2] [0, 1, 7, 8, 9] [] ?_|refine nc ?_);simp (maxSteps := 1000000) [hF])
    refine (keysOf_9 ex l h0 hl he).go [] (by simp (maxSteps := 1000000) [hF]) ?_;rintro av X κ ⟨rfl, rfl, rfl⟩;simp (maxSteps := 1000000) [hF]
    repeat first|refine n1 ?_|refine n3 ?_|((first|refine rg 4 [0, 1, 7, 8, 9] [0, 1, 7, 8, 9, 20] [] ?_|refine rg 6 [0, 1, 7, 9] [0, 1, 7, 9, 24] [] ?_|refine rg 7 [] [6] [] ?_|refine nc ?_);simp (maxSteps := 1000000) [hF, dBk, hn, hi, hii, hup])
    refine VS.widen [(0, [.d])] (by simp [covers, mpre]) ?_
    (try refine nr ?_);(repeat first|refine nb_ ?_|refine nl_ ?_);refine endK.o [6] [0] [(0, [.d])] ?_;simp [hF, retK, covers, mpre, dBk, hc]
   | false =>
    have hc : renewOf g i l = (g, 9) := by simp [renewOf, hh, he, hu, hup]
    refine fb Tryz.func34 Tryz.ntmps34 [.tmp 6] fun w0 I0 F0 hF => ?_
    repeat first|refine n1 ?_|((first|refine rg 0 [0, 1, 2] [0, 1, 2] [] ?_|refine rg 1 [0, 1, 2] [0, 1, 2, 13] [] ?_);simp (maxSteps := 1000000) [hF, dBk])
    refine (has_c g i).go [(0, [])] (by simp (maxSteps := 1000000) [hF, dBk, hh]) ?_;rintro av X κ ⟨rfl, rfl, rfl⟩;simp (maxSteps := 1000000) [hF, dBk, hh]
    repeat first|refine n1 ?_|refine n2 ?_|((first|refine rg 3 [0, 1, 2] [0, 1, 7, 8, 9] [] ?_|refine nc ?_);simp (maxSteps := 1000000) [hF])
    refine (keysOf_9 ex l h0 hl he).go [] (by simp (maxSteps := 1000000) [hF]) ?_;rintro av X κ ⟨rfl, rfl, rfl⟩;simp (maxSteps := 1000000) [hF]
    repeat first|refine n1 ?_|refine n3 ?_|((first|refine rg 4 [0, 1, 7, 8, 9] [0, 1, 7, 8, 9, 20] [] ?_|refine rg 6 [0, 1, 7, 9] [0, 1, 7, 9, 24] [] ?_|refine rg 8 [0, 1, 7, 9] [0, 1, 7, 9, 33] [] ?_|refine rg 9 [9] [6] [] ?_|refine nc ?_);simp (maxSteps := 1000000) [hF, dBk, hn, hi, hii, hup])
    refine VS.widen [(0, [.d])] (by simp [covers, mpre]) ?_
    (try refine nr ?_);(repeat first|refine nb_ ?_|refine nl_ ?_);refine endK.o [6] [0] [(0, [.d])] ?_;simp [hF, retK, covers, mpre, dBk, hc]
  ·cases hup : g.units[i].up with
   | true =>
    have hc : renewOf g i l = (g, 8) := by simp [renewOf, hh, he, hu, hup]
    refine fb Tryz.func34 Tryz.ntmps34 [.tmp 6] fun w0 I0 F0 hF => ?_
    repeat first|refine n1 ?_|((first|refine rg 0 [0, 1, 2] [0, 1, 2] [] ?_|refine rg 1 [0, 1, 2] [0, 1, 2, 13] [] ?_);simp (maxSteps := 1000000) [hF, dBk])
    refine (has_c g i).go [(0, [])] (by simp (maxSteps := 1000000) [hF, dBk, hh]) ?_;rintro av X κ ⟨rfl, rfl, rfl⟩;simp (maxSteps := 1000000) [hF, dBk, hh]
    repeat first|refine n1 ?_|refine n2 ?_|((first|refine rg 3 [0, 1, 2] [0, 1, 7, 8, 9] [] ?_|refine nc ?_);simp (maxSteps := 1000000) [hF])
    refine (keysOf_0 ex l h0 hl he).go [] (by simp (maxSteps := 1000000) [hF]) ?_;rintro av X κ ⟨z, rfl, rfl, rfl⟩;simp (maxSteps := 1000000) [hF]
    repeat first|refine n1 ?_|refine n3 ?_|((first|refine rg 4 [0, 1, 7, 8, 9] [0, 1, 7, 8, 9, 20] [] ?_|refine rg 6 [0, 1, 7, 9] [0, 1, 7, 9, 24] [] ?_|refine rg 7 [] [6] [] ?_|refine nc ?_);simp (maxSteps := 1000000) [hF, dBk, hn, hi, hii, hup])
    refine VS.widen [(0, [.d])] (by simp [covers, mpre]) ?_
    (try refine nr ?_);(repeat first|refine nb_ ?_|refine nl_ ?_);refine endK.o [6] [0] [(0, [.d])] ?_;simp [hF, retK, covers, mpre, dBk, hc]
   | false =>
    have hc : renewOf g i l = (setU g i ⟨true, keysS l, g.units[i].inn⟩, 0) := by simp [renewOf, hh, he, hu, hup]
    have hset := dUns_set true g.units i true (keysS l) g.units[i].inn
    have hns := T.nth_setN_same (s := dUns true g.units) (k := i) (.agg (.cons (.val (.bool true)) (.cons (.sl true () 1 (strs g.units[i].keys)) (.cons (.sl true () 1 (dInts (nats g.units[i].inn))) .nil)))) (by simpa using hi)
    have hss : ∀ x y : D, ((dUns true g.units).setN i x).setN i y = (dUns true g.units).setN i y := fun x y => setN_setN
    refine fb Tryz.func34 Tryz.ntmps34 [.tmp 6] fun w0 I0 F0 hF => ?_
    repeat first|refine n1 ?_|((first|refine rg 0 [0, 1, 2] [0, 1, 2] [] ?_|refine rg 1 [0, 1, 2] [0, 1, 2, 13] [] ?_);simp (maxSteps := 1000000) [hF, dBk])
    refine (has_c g i).go [(0, [])] (by simp (maxSteps := 1000000) [hF, dBk, hh]) ?_;rintro av X κ ⟨rfl, rfl, rfl⟩;simp (maxSteps := 1000000) [hF, dBk, hh]
    repeat first|refine n1 ?_|refine n2 ?_|((first|refine rg 3 [0, 1, 2] [0, 1, 7, 8, 9] [] ?_|refine nc ?_);simp (maxSteps := 1000000) [hF])
    refine (keysOf_0 ex l h0 hl he).go [] (by simp (maxSteps := 1000000) [hF]) ?_;rintro av X κ ⟨z, rfl, rfl, rfl⟩;simp (maxSteps := 1000000) [hF]
    have hpre := strs_pre (keysS l) z
    repeat first|refine n1 ?_|refine n2 ?_|refine n3 ?_|refine n4 ?_|((first|refine rg 4 [0, 1, 7, 8, 9] [0, 1, 7, 8, 9, 20] [] ?_|refine rg 6 [0, 1, 7, 9] [0, 1, 7, 9, 24] [] ?_|refine rg 8 [0, 1, 7, 9] [0, 1, 7, 9, 33] [] ?_|(refine dr 10 0 [0, 1, 7] [] [] [⟨0, 1, 137438953472, 5⟩, ⟨1, 137438953472, 274877906944, 5⟩, ⟨2, 274877906944, 549755813888, 5⟩, ⟨4, 549755813888, 1099511627776, 6⟩, ⟨0, 2, 2199023255552, 5⟩, ⟨0, 1, 4398046511104, 5⟩, ⟨32, 4398046511104, 8796093022208, 5⟩, ⟨64, 8796093022208, 17592186044416, 5⟩, ⟨128, 17592186044416, 35184372088832, 6⟩, ⟨0, 2, 70368744177664, 5⟩, ⟨0, 128, 140737488355328, 5⟩, ⟨287, 3298534883328, 281474976710656, 5⟩, ⟨2335, 281474976710656, 562949953421312, 5⟩, ⟨4383, 562949953421312, 0, 0⟩, ⟨16383, 105553116266496, 1125899906842624, 5⟩, ⟨32767, 1125899906842624, 2251799813685248, 5⟩, ⟨49151, 2392537302040576, 0, 0⟩] (.take 0 (.take 1 (.take 2 (.take 3 (.take 4 (.take 5 (.take 6 (.take 7 (.take 8 (.take 9 (.take 10 (.take 11 (.take 12 (.fork (.alt 13 (.take 14 (.take 15 (.fork (.alt 16 (.done) (.nil))))) (.nil)))))))))))))))) (.run [0, 1, 2, 3, 4, 5, 6, 7, 8, 9, 10, 11, 12, 13, 14, 15, 16] (.done)) ?_;simp only [drs])|refine rg 11 [] [6] [] ?_|refine nc ?_);simp (maxSteps := 1000000) [hF, dBk, hn, hi, hii, hup, hset, hpre, hns, hss])
    refine VS.widen [(0, [.d])] (by simp [covers, mpre]) ?_
    (try refine nr ?_);(repeat first|refine nb_ ?_|refine nl_ ?_);refine endK.o [6] [0] [(0, [.d])] ?_;simp [hF, retK, covers, mpre, dBk, hc, setU, hset]
theorem into_c {n : Nat} (g : Gb) (b : Bk n g) (u o : Int) : Meets Tryz.prog 20 [dBk g] (.cons (.ptr 0 [.d]) (.cons (avInt u) (.cons (avInt o) .nil)))
  fun av X κ => av = avInt (intoOf g u o).2 ∧ X = [dBk (intoOf g u o).1] ∧ κ = [(0, [.d])] := by
 cases hh : hasB g u with
 | false =>
  have hc : intoOf g u o = (g, 1) := by simp [intoOf, hh]
  refine fb Tryz.func20 Tryz.ntmps20 [.tmp 6] fun w0 I0 F0 hF => ?_
  repeat first|refine n1 ?_|refine n3 ?_|((first|refine rg 0 [0, 1, 2] [0, 1, 2] [] ?_|refine rg 1 [0, 1, 2] [0, 1, 2, 8] [(4, 13)] ?_);simp (maxSteps := 1000000) [hF, dBk])
  refine (has_c g u).go [(0, [])] (by simp (maxSteps := 1000000) [hF, dBk, hh]) ?_;rintro av X κ ⟨rfl, rfl, rfl⟩;simp (maxSteps := 1000000) [hF, dBk, hh]
  repeat first|refine n1 ?_|((first|refine rg 2 [] [6] [] ?_|refine nc ?_);simp (maxSteps := 1000000) [hF])
  refine VS.widen [(0, [.d])] (by simp [covers, mpre]) ?_
  (try refine nr ?_);(repeat first|refine nb_ ?_|refine nl_ ?_);refine endK.o [6] [0] [(0, [.d])] ?_;simp [hF, retK, covers, mpre, dBk, hc]
 | true =>
  cases hh2 : hasB g o with
  | false =>
   have hc : intoOf g u o = (g, 1) := by simp [intoOf, hh2]
   refine fb Tryz.func20 Tryz.ntmps20 [.tmp 6] fun w0 I0 F0 hF => ?_
   repeat first|refine n1 ?_|refine n3 ?_|((first|refine rg 0 [0, 1, 2] [0, 1, 2] [] ?_|refine rg 1 [0, 1, 2] [0, 1, 2, 8] [(4, 13)] ?_);simp (maxSteps := 1000000) [hF, dBk])
   refine (has_c g u).go [(0, [])] (by simp (maxSteps := 1000000) [hF, dBk, hh]) ?_;rintro av X κ ⟨rfl, rfl, rfl⟩;simp (maxSteps := 1000000) [hF, dBk, hh]
   refine (has_c g o).go [(0, [])] (by simp (maxSteps := 1000000) [hF, dBk, hh2]) ?_;rintro av X κ ⟨rfl, rfl, rfl⟩;simp (maxSteps := 1000000) [hF, dBk, hh2]
   repeat first|refine n1 ?_|((first|refine rg 2 [] [6] [] ?_|refine nc ?_);simp (maxSteps := 1000000) [hF])
   refine VS.widen [(0, [.d])] (by simp [covers, mpre]) ?_
   (try refine nr ?_);(repeat first|refine nb_ ?_|refine nl_ ?_);refine endK.o [6] [0] [(0, [.d])] ?_;simp [hF, retK, covers, mpre, dBk, hc]
  | true =>
   obtain ⟨i, hi, rfl, hu, _⟩ := unOf_mem hh
   obtain ⟨j, hj, rfl, ho, _⟩ := unOf_mem hh2
   have hn := dUns_nth (o := true) hi
   have hn2 := dUns_nth (o := true) hj
   have hii : (i : Int) < g.units.length := by omega
   have hjj : (j : Int) < g.units.length := by omega
   cases hup : g.units[i].up with
   | false =>
    have hc : intoOf g i j = (g, 8) := by simp [intoOf, hh, hh2, hu, hup]
    refine fb Tryz.func20 Tryz.ntmps20 [.tmp 6] fun w0 I0 F0 hF => ?_
    repeat first|refine n1 ?_|refine n3 ?_|((first|refine rg 0 [0, 1, 2] [0, 1, 2] [] ?_|refine rg 1 [0, 1, 2] [0, 1, 2, 8] [(4, 13)] ?_);simp (maxSteps := 1000000) [hF, dBk])
    refine (has_c g i).go [(0, [])] (by simp (maxSteps := 1000000) [hF, dBk, hh]) ?_;rintro av X κ ⟨rfl, rfl, rfl⟩;simp (maxSteps := 1000000) [hF, dBk, hh]
    refine (has_c g j).go [(0, [])] (by simp (maxSteps := 1000000) [hF, dBk, hh2]) ?_;rintro av X κ ⟨rfl, rfl, rfl⟩;simp (maxSteps := 1000000) [hF, dBk, hh2]
    repeat first|refine n1 ?_|((first|refine rg 3 [0, 1, 2] [0, 1, 2, 19] [(9, 29)] ?_|refine rg 4 [] [6] [] ?_|refine nc ?_);simp (maxSteps := 1000000) [hF, dBk, hn, hi, hii, hup])
    refine VS.widen [(0, [.d])] (by simp [covers, mpre]) ?_
    (try refine nr ?_);(repeat first|refine nb_ ?_|refine nl_ ?_);refine endK.o [6] [0] [(0, [.d])] ?_;simp [hF, retK, covers, mpre, dBk, hc]
   | true =>
    cases hup2 : g.units[j].up with
    | false =>
     have hc : intoOf g i j = (g, 8) := by simp [intoOf, hh, hh2, hu, ho, hup, hup2]
     refine fb Tryz.func20 Tryz.ntmps20 [.tmp 6] fun w0 I0 F0 hF => ?_
     repeat first|refine n1 ?_|refine n3 ?_|((first|refine rg 0 [0, 1, 2] [0, 1, 2] [] ?_|refine rg 1 [0, 1, 2] [0, 1, 2, 8] [(4, 13)] ?_);simp (maxSteps := 1000000) [hF, dBk])
     refine (has_c g i).go [(0, [])] (by simp (maxSteps := 1000000) [hF, dBk, hh]) ?_;rintro av X κ ⟨rfl, rfl, rfl⟩;simp (maxSteps := 1000000) [hF, dBk, hh]
     refine (has_c g j).go [(0, [])] (by simp (maxSteps := 1000000) [hF, dBk, hh2]) ?_;rintro av X κ ⟨rfl, rfl, rfl⟩;simp (maxSteps := 1000000) [hF, dBk, hh2]
     repeat first|refine n1 ?_|((first|refine rg 3 [0, 1, 2] [0, 1, 2, 19] [(9, 29)] ?_|refine rg 4 [] [6] [] ?_|refine nc ?_);simp (maxSteps := 1000000) [hF, dBk, hn, hi, hii, hup, hn2, hj, hjj, hup2])
     refine VS.widen [(0, [.d])] (by simp [covers, mpre]) ?_
     (try refine nr ?_);(repeat first|refine nb_ ?_|refine nl_ ?_);refine endK.o [6] [0] [(0, [.d])] ?_;simp [hF, retK, covers, mpre, dBk, hc]
    | true =>
     have h1 : dInts (nats [j]) = .cons (.val (.int .i64 j)) .nil := rfl
     have hil : i < (aboveOf g.units fun x => x = j).length := by simpa using hi
     have hbn := dBools_nth hil
     rw [aboveOf_at hi] at hbn
     have hsm := dUns_same (o := true) hi hup
     cases hr : rcB g.units (fun x => x = j) i with
     | true =>
      have hc : intoOf g i j = (g, 10) := by simp [intoOf, hh, hh2, hu, ho, hup, hup2, hr]
      refine fb Tryz.func20 Tryz.ntmps20 [.tmp 6] fun w0 I0 F0 hF => ?_
      repeat first|refine n1 ?_|refine n3 ?_|((first|refine rg 0 [0, 1, 2] [0, 1, 2] [] ?_|refine rg 1 [0, 1, 2] [0, 1, 2, 8] [(4, 13)] ?_);simp (maxSteps := 1000000) [hF, dBk])
      refine (has_c g i).go [(0, [])] (by simp (maxSteps := 1000000) [hF, dBk, hh]) ?_;rintro av X κ ⟨rfl, rfl, rfl⟩;simp (maxSteps := 1000000) [hF, dBk, hh]
      refine (has_c g j).go [(0, [])] (by simp (maxSteps := 1000000) [hF, dBk, hh2]) ?_;rintro av X κ ⟨rfl, rfl, rfl⟩;simp (maxSteps := 1000000) [hF, dBk, hh2]
      repeat first|refine n1 ?_|((first|refine rg 3 [0, 1, 2] [0, 1, 2, 19] [(9, 29)] ?_|refine rg 5 [0, 1, 2] [0, 1, 2, 40] [] ?_|refine nc ?_);simp (maxSteps := 1000000) [hF, dBk, hn, hi, hii, hup, hn2, hj, hjj, hup2])
      refine (above_1 g b true j hj).go [(1, []), (0, [])] (by simp (maxSteps := 1000000) [hF, dBk, h1, hbn, hi, hii, hr]) ?_;rintro av X κ ⟨rfl, rfl, rfl⟩;simp (maxSteps := 1000000) [hF, dBk, h1, hbn, hi, hii, hr]
      repeat first|refine n1 ?_|((first|refine rg 6 [] [6] [] ?_|refine nc ?_);simp (maxSteps := 1000000) [hF])
      refine VS.widen [(0, [.d])] (by simp [covers, mpre]) ?_
      (try refine nr ?_);(repeat first|refine nb_ ?_|refine nl_ ?_);refine endK.o [6] [0] [(0, [.d])] ?_;simp [hF, retK, covers, mpre, dBk, hc]
     | false =>
      have hinl := b.inLen i
      rw [innOf_at hi] at hinl
      by_cases hm : j ∈ g.units[i].inn
      ·have hc : intoOf g i j = (g, 0) := by simp [intoOf, hh, hh2, hu, ho, hup, hup2, hr, hm]
       have hmi : ((j : Int) ∈ nats g.units[i].inn) = True := eq_true (mem_nats.2 hm)
       refine fb Tryz.func20 Tryz.ntmps20 [.tmp 6] fun w0 I0 F0 hF => ?_
       repeat first|refine n1 ?_|refine n3 ?_|((first|refine rg 0 [0, 1, 2] [0, 1, 2] [] ?_|refine rg 1 [0, 1, 2] [0, 1, 2, 8] [(4, 13)] ?_);simp (maxSteps := 1000000) [hF, dBk])
       refine (has_c g i).go [(0, [])] (by simp (maxSteps := 1000000) [hF, dBk, hh]) ?_;rintro av X κ ⟨rfl, rfl, rfl⟩;simp (maxSteps := 1000000) [hF, dBk, hh]
       refine (has_c g j).go [(0, [])] (by simp (maxSteps := 1000000) [hF, dBk, hh2]) ?_;rintro av X κ ⟨rfl, rfl, rfl⟩;simp (maxSteps := 1000000) [hF, dBk, hh2]
       repeat first|refine n1 ?_|((first|refine rg 3 [0, 1, 2] [0, 1, 2, 19] [(9, 29)] ?_|refine rg 5 [0, 1, 2] [0, 1, 2, 40] [] ?_|refine nc ?_);simp (maxSteps := 1000000) [hF, dBk, hn, hi, hii, hup, hn2, hj, hjj, hup2])
       refine (above_1 g b true j hj).go [(1, []), (0, [])] (by simp (maxSteps := 1000000) [hF, dBk, h1, hbn, hi, hii, hr]) ?_;rintro av X κ ⟨rfl, rfl, rfl⟩;simp (maxSteps := 1000000) [hF, dBk, h1, hbn, hi, hii, hr]
       repeat first|refine n1 ?_|refine n2 ?_|refine n4 ?_|((first|refine rg 7 [0, 1, 2] [2, 7] [] ?_|refine rg 8 [2, 7] [2, 7, 60] [] ?_|refine nc ?_);simp (maxSteps := 1000000) [hF, dBk, hn, hi, hii, hup])
       refine (contains_c false (nats g.units[i].inn) j (by simp; omega)).go [(0, [.d, .f 0, .i i, .f 2])] (by simp (maxSteps := 1000000) [hF, dBk, hn, hi, hii, hup, hsm, hmi]) ?_;rintro av X κ ⟨rfl, rfl, rfl⟩;simp (maxSteps := 1000000) [hF, dBk, hn, hi, hii, hup, hsm, hmi]
       repeat first|refine n1 ?_|refine n2 ?_|((first|refine rg 10 [] [6] [] ?_|refine nc ?_);simp (maxSteps := 1000000) [hF])
       refine VS.widen [(0, [.d])] (by simp [covers, mpre]) ?_
       (try refine nr ?_);(repeat first|refine nb_ ?_|refine nl_ ?_);refine endK.o [6] [0] [(0, [.d])] ?_;simp [hF, retK, covers, mpre, dBk, hc, hsm]
      ·have hc : intoOf g i j = (setU g i { up := true, keys := g.units[i].keys, inn := g.units[i].inn ++ [j] }, 0) := by simp [intoOf, hh, hh2, hu, ho, hup, hup2, hr, hm]
       have hmi : ((j : Int) ∈ nats g.units[i].inn) = False := eq_false fun h => hm (mem_nats.1 h)
       have hset := dUns_set true g.units i true g.units[i].keys (g.units[i].inn ++ [j])
       rw [nats_snoc] at hset
       have c1 : (g.units[i].inn.length + 1) * 8 ≤ 140737488355328 := by omega
       have c2 : g.units[i].inn.length ≤ 9223372036854775806 := by omega
       refine fb Tryz.func20 Tryz.ntmps20 [.tmp 6] fun w0 I0 F0 hF => ?_
       repeat first|refine n1 ?_|refine n3 ?_|((first|refine rg 0 [0, 1, 2] [0, 1, 2] [] ?_|refine rg 1 [0, 1, 2] [0, 1, 2, 8] [(4, 13)] ?_);simp (maxSteps := 1000000) [hF, dBk])
       refine (has_c g i).go [(0, [])] (by simp (maxSteps := 1000000) [hF, dBk, hh]) ?_;rintro av X κ ⟨rfl, rfl, rfl⟩;simp (maxSteps := 1000000) [hF, dBk, hh]
       refine (has_c g j).go [(0, [])] (by simp (maxSteps := 1000000) [hF, dBk, hh2]) ?_;rintro av X κ ⟨rfl, rfl, rfl⟩;simp (maxSteps := 1000000) [hF, dBk, hh2]
       repeat first|refine n1 ?_|((first|refine rg 3 [0, 1, 2] [0, 1, 2, 19] [(9, 29)] ?_|refine rg 5 [0, 1, 2] [0, 1, 2, 40] [] ?_|refine nc ?_);simp (maxSteps := 1000000) [hF, dBk, hn, hi, hii, hup, hn2, hj, hjj, hup2])
       refine (above_1 g b true j hj).go [(1, []), (0, [])] (by simp (maxSteps := 1000000) [hF, dBk, h1, hbn, hi, hii, hr]) ?_;rintro av X κ ⟨rfl, rfl, rfl⟩;simp (maxSteps := 1000000) [hF, dBk, h1, hbn, hi, hii, hr]
       repeat first|refine n1 ?_|refine n2 ?_|refine n4 ?_|((first|refine rg 7 [0, 1, 2] [2, 7] [] ?_|refine rg 8 [2, 7] [2, 7, 60] [] ?_|refine nc ?_);simp (maxSteps := 1000000) [hF, dBk, hn, hi, hii, hup])
       refine (contains_c false (nats g.units[i].inn) j (by simp; omega)).go [(0, [.d, .f 0, .i i, .f 2])] (by simp (maxSteps := 1000000) [hF, dBk, hn, hi, hii, hup, hsm, hmi]) ?_;rintro av X κ ⟨rfl, rfl, rfl⟩;simp (maxSteps := 1000000) [hF, dBk, hn, hi, hii, hup, hsm, hmi]
       repeat first|((first|refine rg 9 [2, 7] [] [] ?_|refine nc ?_);simp (maxSteps := 1000000) [hF, dBk, hn, hi, hii, hup])
       refine (clone_c false (nats g.units[i].inn) (by simp; omega)).go [(0, [.d, .f 0, .i i, .f 2])] (by simp (maxSteps := 1000000) [hF, dBk, hn, hi, hii, hup, hsm, c1, c2, hset]) ?_;rintro av X κ ⟨rfl, rfl, rfl⟩;simp (maxSteps := 1000000) [hF, dBk, hn, hi, hii, hup, hsm, c1, c2, hset]
       repeat first|refine n1 ?_|(refine rg 10 [] [6] [] ?_;simp (maxSteps := 1000000) [hF])
       refine VS.widen [(0, [.d])] (by simp [covers, mpre]) ?_
       (try refine nr ?_);(repeat first|refine nb_ ?_|refine nl_ ?_);refine endK.o [6] [0] [(0, [.d])] ?_;simp [hF, retK, covers, mpre, dBk, hc, setU, hset]
def dUnsN (n : Nat) (l : List Un) : D := sq (l.mapIdx fun i x => dUn (decide (i < n)) x)
@[simp] theorem dUnsN_len (n : Nat) (l : List Un) : (dUnsN n l).len = l.length := by simp [dUnsN]
theorem dUnsN_zero (l : List Un) : dUnsN 0 l = dUns false l := by
 rw [dUnsN, dUns]; congr 1
 exact List.ext_getElem (by simp) fun j h1 h2 => by simp
theorem dUnsN_all (l : List Un) : dUnsN l.length l = dUns true l := by
 rw [dUnsN, dUns]; congr 1
 exact List.ext_getElem (by simp) fun j h1 h2 => by
  have : j < l.length := by simpa using h1
  simp [this]
theorem dUnsN_nth {n : Nat} {l : List Un} {i : Nat} (h : i < l.length) : (dUnsN n l).nth i = .agg (.cons (.val (.bool l[i].up)) (.cons (.sl (decide (i < n)) () 1 (strs l[i].keys)) (.cons (.sl (decide (i < n)) () 1 (dInts (nats l[i].inn))) .nil))) := by
 rw [dUnsN, sq_nth_lt (by simpa using h)]; simp; rfl
theorem dUnsN_step {l : List Un} {i : Nat} (h : i < l.length) : (dUnsN i l).setN i (.agg (.cons (.val (.bool l[i].up)) (.cons (.sl true () 1 (strs l[i].keys)) (.cons (.sl true () 1 (dInts (nats l[i].inn))) .nil)))) = dUnsN (i + 1) l := by
 rw [dUnsN, sq_setN, dUnsN]; congr 1
 refine List.ext_getElem (by simp) fun j h1 h2 => ?_
 by_cases e : i = j
 ·subst e
  simp [dUn]
 ·rw [List.getElem_set_ne e]
  simp only [List.getElem_mapIdx]
  congr 1
  have : (j < i) = (j < i + 1) := by apply propext; omega
  simp [this]
theorem cloneU_ok (ex : Bool) (l : List Un) (hl : l.length ≤ 100000) : Meets Tryz.prog 24 [] (.cons (.imm 3 (dUns false l) ex) .nil)
  fun av X κ => av = .sub 0 [] 0 l.length false ∧ X = [.sl true () 3 (dUns false l)] ∧ κ = [] := by
 have c1 : l.length * 56 ≤ 140737488355328 := by omega
 have c2 : l.length ≤ 9223372036854775807 := by omega
 refine fb Tryz.func24 Tryz.ntmps24 [.tmp 2] fun w0 I0 F0 hF => ?_
 repeat first|refine n1 ?_|((first|refine rg 0 [0] [0] [] ?_|refine rg 1 [0] [0, 4] [] ?_);simp (maxSteps := 1000000) [hF, c1, c2])
 refine ⟨?_, fun h0 => ?_⟩
 ·repeat first|refine n1 ?_|refine n2 ?_|((first|refine rg 3 [0] [2] [] ?_|refine nc ?_);simp (maxSteps := 1000000) [hF, c1, c2])
  (try refine nr ?_);(repeat first|refine nb_ ?_|refine nl_ ?_);refine endK.o [2] [0] [] ?_;simp [hF, retK, covers, mpre]
 ·repeat first|refine n1 ?_|((first|refine rg 2 [] [2] [] ?_|refine nc ?_);simp (maxSteps := 1000000) [hF, c1, c2])
  refine VS.hold0 2 3 (by simp) ?_
  subst h0
  (try refine nr ?_);(repeat first|refine nb_ ?_|refine nl_ ?_);refine endK.o [2] [0] [] ?_;simp [hF, retK, covers, mpre, dUns, sq]
def dBj (g : Gb) : D := .box true () (.agg (.cons (.junk ()) (.cons (.map true () (dSer g.ser)) .nil)))
@[simp high] theorem head_dBj (g : Gb) : isHead (dBj g) = true := by rw [dBj, isHead]
@[simp] theorem own_dBj (g : Gb) : (dBj g).allOwn = true := by
 have h : (dSer g.ser).allOwn = true := own_sq fun x hx => by obtain ⟨c, _, rfl⟩ := List.mem_map.1 hx; rfl
 simp [dBj, T.allOwn, h]
theorem real_j (g : Gb) : Meets Tryz.prog 23 [dBj g] (.cons (.ptr 0 [.d]) .nil) fun av X κ => av = avBool true ∧ X = [dBj g] ∧ κ = [] := by
 refine fb Tryz.func23 Tryz.ntmps23 [.tmp 2] fun w0 I0 F0 hF => ?_
 repeat first|refine n1 ?_|((first|refine rg 0 [0] [0] [] ?_|refine rg 1 [0] [2] [(2, 5)] ?_);simp (maxSteps := 1000000) [hF, dBj])
 (try refine nr ?_);(repeat first|refine nb_ ?_|refine nl_ ?_);refine endK.o [2] [0] [] ?_;simp [hF, retK, covers, mpre, dBj]
def dUx (us : D) (g : Gb) : D := .box true () (.agg (.cons (.sl true () 3 us) (.cons (.map true () (dSer g.ser)) .nil)))
@[simp high] theorem head_dUx (us : D) (g : Gb) : isHead (dUx us g) = true := by rw [dUx, isHead]
theorem copy_i {n : Nat} (g : Gb) (b : Bk n g) : MeetsP Tryz.prog 8 [dBj g] [(0, [.d, .f 0], .imm 3 (dUns false g.units) false)] (.cons (.ptr 0 [.d]) .nil)
  fun av X κ => av = .ptr 1 [.d] ∧ X = [dBj g, dBk g] ∧ κ = [] := by
 have hul := b.len
 have hz := dUnsN_zero g.units
 refine fbP Tryz.func8 Tryz.ntmps8 [.tmp 2] fun w0 I0 F0 hF => ?_
 repeat first|refine n1 ?_|((first|refine rg 0 [0] [0] [] ?_|refine rg 1 [0] [0, 8] [] ?_);simp (maxSteps := 1000000) [hF, dBj])
 refine (real_j g).go [(0, [])] (by simp (maxSteps := 1000000) [hF, dBj]) ?_;rintro av X κ ⟨rfl, rfl, rfl⟩;simp (maxSteps := 1000000) [hF, dBj]
 repeat first|refine n1 ?_|refine n2 ?_|((first|(refine dr 3 0 [0] [3] [] [⟨0, 1, 512, 5⟩, ⟨1, 512, 1024, 5⟩, ⟨2, 1024, 2048, 5⟩, ⟨4, 2048, 4096, 6⟩, ⟨8, 4096, 8192, 0⟩, ⟨0, 1, 16384, 5⟩, ⟨32, 16384, 32768, 5⟩, ⟨64, 32768, 65536, 5⟩, ⟨128, 65536, 131072, 6⟩, ⟨272, 131072, 262144, 0⟩, ⟨528, 270336, 524288, 5⟩, ⟨1024, 524288, 1048576, 4⟩, ⟨4095, 1048576, 8, 5⟩] (.take 0 (.take 1 (.take 2 (.take 3 (.take 5 (.take 6 (.take 7 (.fork (.alt 4 (.take 8 (.fork (.alt 9 (.take 10 (.fork (.alt 11 (.take 12 (.done)) (.nil)))) (.nil)))) (.alt 8 (.fork (.alt 4 (.fork (.alt 9 (.take 10 (.fork (.alt 11 (.take 12 (.done)) (.nil)))) (.nil))) (.nil))) (.nil))))))))))) (.run [0, 1, 2, 3, 5, 6, 7] (.both (.run [4, 8, 9, 10, 11, 12] (.done)) (.run [8, 4, 9, 10, 11, 12] (.done)))) ?_;simp only [drs])|refine nc ?_);simp (maxSteps := 1000000) [hF, dBj])
 apply merged
 ·intro key
  (repeat' with_reducible refine And.intro ?_ ?_)
  all_goals (refine (cloneU_ok false g.units (by omega)).go [] (by simp (maxSteps := 1000000) [hF, dBj]) ?_;rintro av X κ ⟨rfl, rfl, rfl⟩;simp (maxSteps := 1000000) [hF, dBj])
  (repeat' with_reducible refine And.intro ?_ ?_)
  all_goals (refine (cloneM_ok (dSer g.ser) (by simp)).go [(0, [.d, .f 1])] (by simp (maxSteps := 1000000) [hF, dBj]) ?_;rintro av X κ ⟨rfl, rfl, rfl⟩;simp (maxSteps := 1000000) [hF, dBj])
  (repeat' with_reducible refine And.intro ?_ ?_)
  all_goals (refine VS.pick [3] [0, 3] (by simp [hF]) ?_;simp [hF])
  all_goals exact key ()
 repeat first|refine n1 ?_|refine n3 ?_|(refine rg 4 [3] [3, 24, 25, 26] [] ?_;simp (maxSteps := 1000000) [hF, dBj])
 refine VS.rounds (fun m st => ∃ (i : Nat), i + m = g.units.length ∧ st = ⟨[(3, .ptr 1 [.d]), (24, .sub 1 [.d, .f 0] 0 g.units.length false), (25, avInt g.units.length), (26, avInt i)], [dBj g, dUx (dUnsN i g.units) g], [], [(0, [.d, .f 0], .imm 3 (dUns false g.units) false)]⟩)
  ⟨g.units.length, 0, by omega, by simp [dBj, dUx, hz]⟩ ?_
 rintro m st ⟨i, hi, rfl⟩
 repeat first|refine n1 ?_|((first|refine rg 5 [3, 24, 25, 26] [3, 24, 25, 26, 27] [] ?_|refine nc ?_);simp (maxSteps := 1000000) [hF, dUx])
 refine ⟨fun hlt => ?_, fun hge => ?_⟩
 ·have hlt' : i < g.units.length := by omega
  have hn := dUnsN_nth (n := i) hlt'
  simp only [Nat.lt_irrefl, decide_false] at hn
  have hst := dUnsN_step hlt'
  have hns := T.nth_setN_same (s := dUnsN i g.units) (k := i) (.agg (.cons (.val (.bool g.units[i].up)) (.cons (.sl true () 1 (strs g.units[i].keys)) (.cons (.sl false () 1 (dInts (nats g.units[i].inn))) .nil)))) (by simpa using hlt')
  have hss : ∀ x y : D, ((dUnsN i g.units).setN i x).setN i y = (dUnsN i g.units).setN i y := fun x y => setN_setN
  have hkl := (b.asc _ (List.getElem_mem hlt')).2
  have hil := b.inLen i
  rw [innOf_at hlt'] at hil
  have hii : (i : Int) < g.units.length := by omega
  have hw : IntKind.i64.wrap ((i : Int) + 1) = (i + 1 : Nat) := by rw [IntWalk.i64_in _ (by omega)]; rfl
  repeat first|refine n1 ?_|refine n2 ?_|refine n3 ?_|((first|refine rg 6 [3, 24, 25, 26] [3, 4, 5, 24, 25, 26] [] ?_|(refine dr 7 36864 [3, 4, 5, 24, 25, 26] [3, 24, 25, 26] [] [⟨0, 8, 2147483648, 5⟩, ⟨1, 2147483648, 4294967296, 5⟩, ⟨2, 4294967296, 8589934592, 5⟩, ⟨4, 8589934592, 17179869184, 6⟩, ⟨0, 16, 34359738368, 5⟩, ⟨0, 8, 68719476736, 5⟩, ⟨32, 68719476736, 137438953472, 5⟩, ⟨64, 137438953472, 274877906944, 5⟩, ⟨128, 274877906944, 549755813888, 6⟩, ⟨0, 16, 1099511627776, 5⟩, ⟨0, 32, 2199023255552, 5⟩, ⟨1024, 2199023255552, 4398046511104, 6⟩, ⟨2048, 4398046511104, 8796093022208, 0⟩, ⟨0, 32, 17592186044416, 5⟩, ⟨8192, 17592186044416, 35184372088832, 6⟩, ⟨20480, 35184372088832, 70368744177664, 0⟩, ⟨40223, 51539607552, 140737488355328, 5⟩, ⟨105759, 140737488355328, 281474976710656, 5⟩, ⟨171295, 290271069732864, 0, 0⟩, ⟨524287, 1649267441664, 562949953421312, 5⟩, ⟨1048575, 562949953421312, 1125899906842624, 5⟩, ⟨1572863, 1196268651020288, 0, 0⟩] (.take 0 (.take 1 (.take 2 (.take 3 (.take 4 (.take 5 (.take 6 (.take 7 (.take 8 (.take 9 (.take 10 (.take 11 (.take 13 (.take 14 (.fork (.alt 12 (.fork (.alt 15 (.take 16 (.take 17 (.fork (.alt 18 (.take 19 (.take 20 (.fork (.alt 21 (.done) (.nil))))) (.nil))))) (.nil))) (.nil))))))))))))))))) (.run [0, 1, 2, 3, 4, 5, 6, 7, 8, 9, 10, 11, 13, 14] (.chk 12 (.run [12] (.chk 15 (.run [15, 16, 17, 18, 19, 20, 21] (.done)))))) ?_;simp only [drs]));simp (maxSteps := 1000000) [hF, dUx, hn, hlt', hii])
  (repeat' with_reducible refine And.intro ?_ ?_)
  all_goals (refine (cloneS_ok false g.units[i].keys (by omega)).go [] (by simp (maxSteps := 1000000) [hF, dUx, hn, hlt', hii, hst]) ?_;rintro av X κ ⟨rfl, rfl, rfl⟩;simp (maxSteps := 1000000) [hF, dUx, hn, hlt', hii, hst])
  (repeat' with_reducible refine And.intro ?_ ?_)
  all_goals (refine (clone_ok false (nats g.units[i].inn) (by simp; omega)).go [] (by simp (maxSteps := 1000000) [hF, dUx, hn, hlt', hii, hst, hns, hss]) ?_;rintro av X κ ⟨rfl, rfl, rfl⟩;simp (maxSteps := 1000000) [hF, dUx, hn, hlt', hii, hst, hns, hss])
  (repeat' with_reducible refine And.intro ?_ ?_)
  all_goals (repeat first|refine n4 ?_|refine n5 ?_|refine n6 ?_|(refine rg 8 [3, 24, 25, 26] [3, 24, 25, 26] [] ?_;simp (maxSteps := 1000000) [hF, dUx, hn, hlt', hii, hst, hw]))
  all_goals (refine nextK.of [3, 24, 25, 26] [0, 1] (m - 1) (by omega) (by simp [hF]) ?_)
  all_goals exact ⟨i + 1, by omega, by simp [dUx, dBj, hst]⟩
 ·obtain rfl : i = g.units.length := by omega
  have ha := dUnsN_all g.units
  repeat first|refine n1 ?_|refine n7 ?_|(refine rg 9 [3] [2] [] ?_;simp (maxSteps := 1000000) [hF])
  (try refine nr ?_);(repeat first|refine nb_ ?_|refine nl_ ?_);refine endK.o [2] [0, 1] [] ?_;simp [hF, retK, covers, mpre, dBj, dUx, dBk, ha]
end Go.Proofs.YtipokdbfdingmaaGreat

/- Books of grounds, plainly: the document's ways. -/
namespace Go.Proofs.YtipokdbfdingmaaGreat
set_option linter.all false
open Go.Vc Go.Proofs
def wIns (s : ByteArray) : List ByteArray → List ByteArray → Bool → List ByteArray
  | [], out, put => if put = true then out else out ++ [s]
  | a :: l, out, put => if put = false ∧ sLess s a = true then wIns s l (out ++ [s] ++ [a]) true else wIns s l (out ++ [a]) put
theorem wIns_true (s : ByteArray) : ∀ l out, wIns s l out true = out ++ l
  | [], out => by simp [wIns]
  | a :: l, out => by rw [wIns, if_neg (by simp), wIns_true s l]; simp
theorem wIns_false {s : ByteArray} : ∀ {l : List ByteArray} (out : List ByteArray), ¬ s ∈ l → wIns s l out false = out ++ insS s l
  | [], out, _ => by simp [wIns, insS]
  | a :: l, out, h => by
    rw [List.mem_cons, not_or] at h
    rw [wIns, insS]
    by_cases hs : sLess s a = true
    · rw [if_pos ⟨rfl, hs⟩, if_pos hs, wIns_true]; simp
    · rw [if_neg (fun h => hs h.2), if_neg hs, if_neg h.1, wIns_false _ h.2]; simp
theorem hasS_no {l : List ByteArray} {s : ByteArray} (h : hasS l s = false) : ¬ s ∈ l := fun hm => by rw [hasS_iff.2 hm] at h; cases h
theorem keysS_take {l : List ByteArray} {i : Nat} (h : i < l.length) : keysS (l.take (i + 1)) = insS l[i] (keysS (l.take i)) := by rw [take_succ_at h, keysS_snoc]
theorem insS_has {s : ByteArray} {l : List ByteArray} (hA : Asc l) (h : hasS l s = true) : insS s l = l := insS_same hA (hasS_iff.1 h)
structure Cm (us : List Un) (S : Nat → Prop) (M : List Bool) : Prop where
  len : M.length = us.length
  sub : ∀ x, M.getD x false = true → Rc us S x
  start : ∀ x, S x → M.getD x false = true
theorem Cm.begin {us : List Un} {S : Nat → Prop} {M : List Bool} (hl : M.length = us.length) (h : ∀ x, M.getD x false = true ↔ S x) : Cm us S M :=
  ⟨hl, fun x hx => .base ((h x).1 hx), fun x hx => (h x).2 hx⟩
def closedAt (us : List Un) (M : List Bool) (x : Nat) : Prop := M.getD x false = true → ∀ y ∈ innOf us x, M.getD y false = true
theorem Cm.mark {us : List Un} {S : Nat → Prop} {M : List Bool} (c : Cm us S M) {x y : Nat} (hx : M.getD x false = true) (hy : y ∈ innOf us x) (hyl : y < us.length) : Cm us S (M.set y true) := by
  have hl := c.len
  refine ⟨by rw [List.length_set, hl], fun z hz => ?_, fun z hz => ?_⟩
  · by_cases e : y = z
    · subst e; exact .step (c.sub x hx) hy
    · rw [getD_set_ne e] at hz; exact c.sub z hz
  · by_cases e : y = z
    · subst e; exact getD_set_self (by omega) true
    · rw [getD_set_ne e]; exact c.start z hz
theorem Cm.done {us : List Un} {S : Nat → Prop} {M : List Bool} (c : Cm us S M) (h : ∀ x, x < us.length → closedAt us M x) : M = aboveOf us S :=
  marks_eq c.len c.sub c.start fun x hx => by
    have hl := c.len
    refine h x ?_ hx
    rcases Nat.lt_or_ge x us.length with h1 | h1
    · exact h1
    · rw [List.getD_eq_getElem?_getD, List.getElem?_eq_none (by omega)] at hx; cases hx
def cF (M : List Bool) : Nat := M.count false
theorem cF_mark {M : List Bool} {y : Nat} (h : y < M.length) (hy : M[y] = false) : cF (M.set y true) + 1 = cF M := by
  unfold cF
  rw [List.count_set h]
  have : 0 < M.count false := List.count_pos_iff.2 (hy ▸ List.getElem_mem h)
  simp [hy]; omega
theorem getD_at' {M : List Bool} {y : Nat} (h : M.getD y false = true) : y < M.length := by
  rcases Nat.lt_or_ge y M.length with h1 | h1
  · exact h1
  · rw [List.getD_eq_getElem?_getD, List.getElem?_eq_none h1] at h; cases h
theorem one_marks {n i : Nat} (h : i < n) (x : Nat) : ((List.replicate n false).set i true).getD x false = true ↔ x = i := by
  by_cases e : i = x
  · subst e; rw [getD_set_self (by simpa using h)]; simp
  · rw [getD_set_ne e, List.getD_eq_getElem?_getD, List.getElem?_replicate]
    constructor
    · intro h; split at h <;> simp at h
    · intro h; exact absurd h.symm e
def hasM (us : List Un) (k : ByteArray) (i : Nat) : List Bool := (us.take i).map (fun u => hasS u.keys k) ++ List.replicate (us.length - i) false
theorem hasM_zero (us : List Un) (k : ByteArray) : hasM us k 0 = List.replicate us.length false := by simp [hasM]
theorem hasM_len {us : List Un} {k : ByteArray} {i : Nat} (h : i ≤ us.length) : (hasM us k i).length = us.length := by simp [hasM]; omega
theorem hasM_step {us : List Un} {k : ByteArray} {i : Nat} (h : i < us.length) : (hasM us k i).set i (hasS us[i].keys k) = hasM us k (i + 1) := by
  have hl : ((us.take i).map fun u => hasS u.keys k).length = i := by simp; omega
  rw [hasM, List.set_append, if_neg (by omega), hl, Nat.sub_self, hasM, take_succ_at h, List.map_append]
  have e : us.length - i = (us.length - (i + 1)) + 1 := by omega
  rw [e, List.replicate_succ, List.set_cons_zero]; simp
theorem hasM_all {us : List Un} {k : ByteArray} : hasM us k us.length = us.map fun u => hasS u.keys k := by simp [hasM]
theorem hasM_rely {n : Nat} {g : Gb} (b : Bk n g) (k : ByteArray) (x : Nat) : (hasM g.units k g.units.length).getD x false = true ↔ relyB g.units k x := by
  rw [hasM_all, List.getD_eq_getElem?_getD, List.getElem?_map, relyB]
  cases hx : g.units[x]? with
  | none => simp
  | some u =>
    have hu := List.mem_of_getElem? hx
    simp only [Option.map_some, Option.getD_some, hasS_iff, Option.some.injEq, exists_eq_left']
    constructor
    · intro h
      refine ⟨?_, h⟩
      cases hup : u.up with
      | true => rfl
      | false => rw [(b.down u hu hup).1] at h; simp at h
    · exact And.right
theorem serOf_bump {m : List (ByteArray × Int)} {k x : ByteArray} : serOf (bump m k) x = if x = k then serOf m k + 1 else serOf m x := by
  have e0 : ∀ (m : List (ByteArray × Int)) (v : ByteArray × Int → Int), (∀ p ∈ m, ¬ p.1 = k → v p = p.2) → ∀ x, ¬ x = k → (m.map fun p => if p.1 = k then (k, v p) else p).find? (fun p => decide (p.1 = x)) = m.find? fun p => decide (p.1 = x) := by
    intro m v hv x hx
    induction m with
    | nil => rfl
    | cons a l ih =>
      have ih := ih fun p hp => hv p (by simp [hp])
      rw [List.map_cons, List.find?_cons, List.find?_cons]
      by_cases ha : a.1 = k
      · rw [if_pos ha]
        have h1 : ¬ k = x := fun e => hx e.symm
        have h2 : ¬ a.1 = x := fun e => hx (e.symm.trans ha)
        simp only [h1, h2, decide_false, ih]
      · rw [if_neg ha, ih]
  have e1 : ∀ (m : List (ByteArray × Int)), m.any (fun p => decide (p.1 = k)) = true → (m.map fun p => if p.1 = k then (k, p.2 + 1) else p).find? (fun p => decide (p.1 = k)) = (m.find? fun p => decide (p.1 = k)).map fun p => (k, p.2 + 1) := by
    intro m
    induction m with
    | nil => intro h; cases h
    | cons a l ih =>
      intro h
      rw [List.map_cons, List.find?_cons, List.find?_cons]
      by_cases ha : a.1 = k
      · rw [if_pos ha]; simp [ha]
      · rw [if_neg ha]
        simp only [ha, decide_false]
        exact ih (by simpa [List.any_cons, ha] using h)
  unfold serOf bump
  by_cases h : m.any (fun p => decide (p.1 = k)) = true
  · rw [if_pos h]
    by_cases hx : x = k
    · subst hx
      rw [if_pos rfl, e1 m h]
      obtain ⟨p, hp, hpk⟩ := List.any_eq_true.1 h
      cases hf : m.find? fun p => decide (p.1 = x) with
      | none => exact absurd hpk (List.find?_eq_none.1 hf p hp)
      | some q => rfl
    · rw [if_neg hx]
      have := e0 m (fun p => p.2 + 1) 
      have e2 : (m.map fun p => if p.1 = k then (k, p.2 + 1) else p).find? (fun p => decide (p.1 = x)) = m.find? fun p => decide (p.1 = x) := by
        clear this e1 h
        induction m with
        | nil => rfl
        | cons a l ih =>
          rw [List.map_cons, List.find?_cons, List.find?_cons]
          by_cases ha : a.1 = k
          · rw [if_pos ha]
            have h1 : ¬ k = x := fun e => hx e.symm
            have h2 : ¬ a.1 = x := fun e => hx (e.symm.trans ha)
            simp only [h1, h2, decide_false, ih]
          · rw [if_neg ha, ih]
      rw [e2]
  · rw [if_neg h, List.find?_append]
    have hno : ∀ p ∈ m, ¬ p.1 = k := fun p hp e => h (List.any_eq_true.2 ⟨p, hp, by simpa using e⟩)
    by_cases hx : x = k
    · subst hx
      rw [if_pos rfl, List.find?_eq_none.2 (fun p hp => by simpa using hno p hp)]
      simp
    · rw [if_neg hx]
      have h1 : ¬ k = x := fun e => hx e.symm
      cases hf : m.find? fun p => decide (p.1 = x) with
      | none => simp [h1]
      | some q => simp
theorem movedOf_mem {g : Gb} {k : ByteArray} : k ∈ movedOf g ↔ g.ser.any (fun p => decide (p.1 = k)) = true := by
  rw [movedOf, keysS_mem, List.mem_map, List.any_eq_true]
  simp
theorem movedOf_bump (g : Gb) (k : ByteArray) : movedOf { g with ser := bump g.ser k } = insS k (movedOf g) := by
  have e : movedOf { g with ser := bump g.ser k } = keysS ((bump g.ser k).map (·.1)) := rfl
  rw [e, bump_keys]
  split
  · rename_i h
    exact (insS_same (keysS_asc _) (movedOf_mem.2 h)).symm
  · rw [keysS_snoc]; rfl
theorem serOf_none {g : Gb} {k : ByteArray} (h : ¬ k ∈ movedOf g) : serOf g.ser k = 0 := by
  rw [movedOf_mem, List.any_eq_true] at h
  rw [serOf, List.find?_eq_none.2 fun p hp hk => h ⟨p, hp, hk⟩]; rfl
theorem serOf_le {n : Nat} {g : Gb} (b : Bk n g) (k : ByteArray) : 0 ≤ serOf g.ser k ∧ serOf g.ser k ≤ n := by
  unfold serOf
  cases hs : g.ser.find? fun p => decide (p.1 = k) with
  | none => simp
  | some p => exact b.moved.2 p (List.mem_of_find?_eq_some hs)
theorem movedOf_len {n : Nat} {g : Gb} (b : Bk n g) : (movedOf g).length ≤ n := by
  have h := keysS_len (g.ser.map (·.1))
  have hm := b.moved.1
  rw [List.length_map] at h
  exact Nat.le_trans h hm
theorem movedOf_key {g : Gb} (nk : Nk g) {k : ByteArray} (h : k ∈ movedOf g) : isKeyB k = true := by
  rw [movedOf, keysS_mem, List.mem_map] at h
  obtain ⟨p, hp, rfl⟩ := h
  exact nk.ser p hp
@[simp] theorem serials_len (g : Gb) : (serials g).length = (movedOf g).length := by simp [serials]
def serT (mv : List ByteArray) (m : List (ByteArray × Int)) (k : ByteArray) (i : Nat) : List Int := (mv.take i).map (serOf (bump m k)) ++ (mv.drop i).map (serOf m)
theorem serT_zero (mv : List ByteArray) (m : List (ByteArray × Int)) (k : ByteArray) : serT mv m k 0 = mv.map (serOf m) := by simp [serT]
theorem serT_all (mv : List ByteArray) (m : List (ByteArray × Int)) (k : ByteArray) : serT mv m k mv.length = mv.map (serOf (bump m k)) := by simp [serT]
theorem serT_len {mv : List ByteArray} {m : List (ByteArray × Int)} {k : ByteArray} {i : Nat} (h : i ≤ mv.length) : (serT mv m k i).length = mv.length := by simp [serT]; omega
theorem serT_at {mv : List ByteArray} {m : List (ByteArray × Int)} {k : ByteArray} {i : Nat} (h : i < mv.length) (h' : i < (serT mv m k i).length) : (serT mv m k i)[i] = serOf m mv[i] := by
  have hl : ((mv.take i).map (serOf (bump m k))).length = i := by simp; omega
  have e : (serT mv m k i)[i]? = some (serOf m mv[i]) := by
    rw [serT, List.getElem?_append_right (by omega), hl, Nat.sub_self, List.getElem?_map, List.getElem?_drop, Nat.add_zero, List.getElem?_eq_getElem h]; rfl
  rw [List.getElem?_eq_getElem h', Option.some.injEq] at e
  exact e
theorem serT_set {mv : List ByteArray} {m : List (ByteArray × Int)} {k : ByteArray} {i : Nat} (h : i < mv.length) : (serT mv m k i).set i (serOf (bump m k) mv[i]) = serT mv m k (i + 1) := by
  have hl : ((mv.take i).map (serOf (bump m k))).length = i := by simp; omega
  rw [serT, List.set_append, if_neg (by omega), hl, Nat.sub_self, List.drop_eq_getElem_cons h, List.map_cons, List.set_cons_zero, serT, take_succ_at h, List.map_append]
  simp
theorem serT_same {mv : List ByteArray} {m : List (ByteArray × Int)} {k : ByteArray} {i : Nat} (h : i < mv.length) (hk : ¬ mv[i] = k) : serT mv m k (i + 1) = serT mv m k i := by
  rw [← serT_set h, serOf_bump, if_neg hk]
  have hl : ((mv.take i).map (serOf (bump m k))).length = i := by simp; omega
  rw [serT, List.set_append, if_neg (by omega), hl, Nat.sub_self, List.drop_eq_getElem_cons h, List.map_cons, List.set_cons_zero]
end Go.Proofs.YtipokdbfdingmaaGreat

/- What the document asks of lists and of a book. -/
namespace Go.Proofs.YtipokdbfdingmaaGreat
set_option linter.all false
open Go.Vc Go.Proofs
set_option linter.unusedSimpArgs false
set_option linter.unusedVariables false
set_option maxRecDepth 100000
set_option maxHeartbeats 4000000
attribute [local irreducible] CallW EqK
theorem eisKey_ok (s : ByteArray) : Meets Tryz.prog 62 [] (.cons (avStr s) .nil) fun av X κ => av = avBool (isKeyB s) ∧ X = [] ∧ κ = [] := by
 have hd : decide ((s.size : Int) ≤ 60) = decide (s.size ≤ 60) := by simp only [decide_eq_decide]; omega
 by_cases h1 : 1 ≤ s.size
 ·have hc : isKeyB s = decide (s.size ≤ 60) := by simp [isKeyB, h1]
  have h1i : (1 : Int) ≤ s.size := by omega
  refine fb Tryz.func62 Tryz.ntmps62 [.tmp 2] fun w0 I0 F0 hF => ?_
  repeat first|refine n1 ?_|((first|refine rg 0 [0] [0] [] ?_|refine rg 1 [0] [2] [(3, 6)] ?_);simp (maxSteps := 1000000) [hF, h1i])
  (try refine nr ?_);(repeat first|refine nb_ ?_|refine nl_ ?_);refine endK.o [2] [] [] ?_;simp [hF, retK, covers, mpre, hc, hd]
 ·have hc : isKeyB s = false := by simp [isKeyB, h1]
  have h1i : ¬ (1 : Int) ≤ s.size := by omega
  refine fb Tryz.func62 Tryz.ntmps62 [.tmp 2] fun w0 I0 F0 hF => ?_
  repeat first|refine n1 ?_|((first|refine rg 0 [0] [0] [] ?_|refine rg 1 [0] [2] [(3, 6)] ?_);simp (maxSteps := 1000000) [hF, h1i])
  (try refine nr ?_);(repeat first|refine nb_ ?_|refine nl_ ?_);refine endK.o [2] [] [] ?_;simp [hF, retK, covers, mpre, hc]
theorem ethere_ok (g : Gb) (u : Int) : Meets Tryz.prog 61 [] (.cons (avE g) (.cons (avInt u) .nil)) fun av X κ => av = avBool (hasB g u) ∧ X = [] ∧ κ = [] := by
 by_cases h0 : 0 ≤ u
 ·have hc : hasB g u = decide (u < g.units.length) := by simp [hasB, h0]
  refine fb Tryz.func61 Tryz.ntmps61 [.tmp 4] fun w0 I0 F0 hF => ?_
  repeat first|refine n1 ?_|((first|refine rg 0 [0, 1] [0, 1] [] ?_|refine rg 1 [0, 1] [4] [(2, 7), (8, 13), (12, 17)] ?_);simp (maxSteps := 1000000) [hF, eBb, h0])
  (try refine nr ?_);(repeat first|refine nb_ ?_|refine nl_ ?_);refine endK.o [4] [] [] ?_;simp [hF, retK, covers, mpre, hc]
 ·have hc : hasB g u = false := by simp [hasB, h0]
  refine fb Tryz.func61 Tryz.ntmps61 [.tmp 4] fun w0 I0 F0 hF => ?_
  repeat first|refine n1 ?_|((first|refine rg 0 [0, 1] [0, 1] [] ?_|refine rg 1 [0, 1] [4] [(2, 7), (8, 13), (12, 17)] ?_);simp (maxSteps := 1000000) [hF, eBb, h0])
  (try refine nr ?_);(repeat first|refine nb_ ?_|refine nl_ ?_);refine endK.o [4] [] [] ?_;simp [hF, retK, covers, mpre, hc]
theorem ethere_c (g : Gb) (u : Int) : Meets Tryz.prog 61 [eBk g] (.cons (.ptr 0 [.d]) (.cons (avInt u) .nil)) fun av X κ => av = avBool (hasB g u) ∧ X = [eBk g] ∧ κ = [] :=
 warmE (ethere_ok g u) rfl rfl (by simp) rfl
theorem ehas_ok (ex : Bool) (l : List ByteArray) (v : ByteArray) (hl : l.length ≤ 100000000) : Meets Tryz.prog 63 [] (.cons (.imm 1 (strs l) ex) (.cons (avStr v) .nil)) fun av X κ => av = avBool (hasS l v) ∧ X = [] ∧ κ = [] := by
 refine fb Tryz.func63 Tryz.ntmps63 [.tmp 4] fun w0 I0 F0 hF => ?_
 repeat first|refine n1 ?_|refine n3 ?_|((first|refine rg 0 [0, 1] [0, 1] [] ?_|refine rg 1 [0, 1] [0, 1, 5] [] ?_);simp (maxSteps := 1000000) [hF])
 refine VS.rounds (fun m st => ∃ (i : Nat), i + m = l.length ∧ (∀ j, (h : j < l.length) → j < i → ¬ l[j] = v) ∧ st = ⟨[(0, .imm 1 (strs l) ex), (1, avStr v), (5, avInt i)], [], [], []⟩) ⟨l.length, 0, by omega, by omega, by simp⟩ ?_
 rintro m st ⟨i, hi, hall, rfl⟩
 repeat first|refine n1 ?_|((first|refine rg 2 [0, 1, 5] [0, 1, 5, 9] [] ?_|refine nc ?_);simp (maxSteps := 1000000) [hF])
 refine ⟨fun hlt => ?_, fun hge => ?_⟩
 ·have hn := strs_nth hlt
  have hw : IntKind.i64.wrap ((i : Int) + 1) = (i + 1 : Nat) := by rw [IntWalk.i64_in _ (by omega)]; rfl
  by_cases hp : l[i] = v
  ·have hr : hasS l v = true := hasS_iff.2 (hp ▸ List.getElem_mem hlt)
   repeat first|refine n1 ?_|refine n2 ?_|refine n3 ?_|((first|refine rg 4 [0, 1, 5] [0, 1, 5, 17] [] ?_|refine rg 5 [] [4] [] ?_|refine nc ?_);simp (maxSteps := 1000000) [hF, hn, hlt, hp])
   (try refine nr ?_);(repeat first|refine nb_ ?_|refine nl_ ?_);refine endK.o [4] [] [] ?_;simp [hF, retK, covers, mpre, hr]
  ·repeat first|refine n1 ?_|refine n2 ?_|refine n3 ?_|refine n4 ?_|refine n5 ?_|refine n6 ?_|((first|refine rg 3 [0, 1, 5] [0, 1, 5] [] ?_|refine rg 4 [0, 1, 5] [0, 1, 5, 17] [] ?_|refine nc ?_);simp (maxSteps := 1000000) [hF, hn, hlt, hp, hw])
   refine nextK.of [0, 1, 5] [] (m - 1) (by omega) (by simp [hF]) ?_
   refine ⟨i + 1, by omega, ?_, by simp⟩
   intro j hj hji
   rcases Nat.lt_or_ge j i with h' | h'
   ·exact hall j hj h'
   ·obtain rfl : j = i := by omega
    exact hp
 ·have hr : hasS l v = false := by
   rw [hasS, List.any_eq_false]
   intro x hx
   obtain ⟨j, hj, rfl⟩ := List.getElem_of_mem hx
   simpa using hall j hj (by omega)
  repeat first|refine n1 ?_|refine n7 ?_|(refine rg 6 [] [4] [] ?_;simp (maxSteps := 1000000) [hF])
  (try refine nr ?_);(repeat first|refine nb_ ?_|refine nl_ ?_);refine endK.o [4] [] [] ?_;simp [hF, retK, covers, mpre, hr]
theorem ehas_c (ex : Bool) (l : List ByteArray) (v : ByteArray) (hl : l.length ≤ 100000000) : Meets Tryz.prog 63 [.sl true () 1 (strs l)] (.cons (.sub 0 [] 0 l.length ex) (.cons (avStr v) .nil)) fun av X κ => av = avBool (hasS l v) ∧ X = [.sl true () 1 (strs l)] ∧ κ = [] :=
 warmL (ehas_ok ex l v hl) (by simp [AV.chilled]) rfl (fun _ h => by cases h) rfl
theorem with_has (ex : Bool) (l : List ByteArray) (s : ByteArray) (hl : l.length ≤ 1000000) (hh : hasS l s = true) : Meets Tryz.prog 64 [.sl true () 1 (strs l)] (.cons (.sub 0 [] 0 l.length ex) (.cons (avStr s) .nil))
  fun av X κ => av = .sub 0 [] 0 l.length ex ∧ X = [.sl true () 1 (strs l)] ∧ κ = [] := by
 refine fb Tryz.func64 Tryz.ntmps64 [.tmp 4] fun w0 I0 F0 hF => ?_
 repeat first|refine n1 ?_|((first|refine rg 0 [0, 1] [0, 1] [] ?_|refine rg 1 [0, 1] [0, 1, 10] [] ?_);simp (maxSteps := 1000000) [hF])
 refine (ehas_c ex l s (by omega)).go [(0, [])] (by simp (maxSteps := 1000000) [hF, hh]) ?_;rintro av X κ ⟨rfl, rfl, rfl⟩;simp (maxSteps := 1000000) [hF, hh]
 repeat first|refine n1 ?_|((first|refine rg 2 [0] [4] [] ?_|refine nc ?_);simp (maxSteps := 1000000) [hF])
 (try refine nr ?_);(repeat first|refine nb_ ?_|refine nl_ ?_);refine endK.o [4] [0] [] ?_;simp [hF, retK, covers, mpre]
theorem with_i (ex : Bool) (l : List ByteArray) (s : ByteArray) (hl : l.length ≤ 1000000) (hh : hasS l s = false) : Meets Tryz.prog 64 [] (.cons (.imm 1 (strs l) ex) (.cons (avStr s) .nil))
  fun av X κ => av = .sub 0 [] 0 (insS s l).length false ∧ X = [.sl true () 1 (strs (insS s l))] ∧ κ = [] := by
 have hI := wIns_false (s := s) (l := l) [] (hasS_no hh)
 rw [List.nil_append] at hI
 refine fb Tryz.func64 Tryz.ntmps64 [.tmp 4] fun w0 I0 F0 hF => ?_
 repeat first|refine n1 ?_|((first|refine rg 0 [0, 1] [0, 1] [] ?_|refine rg 1 [0, 1] [0, 1, 10] [] ?_);simp (maxSteps := 1000000) [hF])
 refine (ehas_ok ex l s (by omega)).go [] (by simp (maxSteps := 1000000) [hF, hh]) ?_;rintro av X κ ⟨rfl, rfl, rfl⟩;simp (maxSteps := 1000000) [hF, hh]
 repeat first|refine n1 ?_|refine n2 ?_|refine n3 ?_|((first|refine rg 3 [0, 1] [0, 1, 5] [] ?_|refine rg 4 [0, 1, 5] [0, 1, 5, 6] [] ?_|refine rg 5 [0, 1, 5, 6] [0, 1, 5, 6, 7] [] ?_|refine nc ?_);simp (maxSteps := 1000000) [hF])
 refine VS.hold0 5 1 (by simp) ?_
 refine VS.pick [0, 1, 5, 6, 7] [0] (by simp [hF]) ?_;simp [hF]
 refine VS.rounds (fun m st => ∃ (i : Nat) (out : List ByteArray) (put : Bool), i + m = l.length ∧ (put = false → out.length ≤ i) ∧ out.length ≤ i + 1 ∧ wIns s (l.drop i) out put = insS s l ∧ st = ⟨[(0, .imm 1 (strs l) ex), (1, avStr s), (5, .sub 0 [] 0 out.length false), (6, avBool put), (7, avInt i)], [.sl true () 1 (strs out)], [], []⟩)
  ⟨l.length, 0, [], false, by omega, by simp, by simp, by rw [List.drop_zero]; exact hI, by simp⟩ ?_
 rintro m st ⟨i, out, put, hi, hol0, hol, hwi, rfl⟩
 repeat first|refine n1 ?_|((first|refine rg 6 [0, 1, 5, 6, 7] [0, 1, 5, 6, 7, 15] [] ?_|refine nc ?_);simp (maxSteps := 1000000) [hF])
 refine ⟨fun hlt => ?_, fun hge => ?_⟩
 ·have hn := strs_nth hlt
  have hw : IntKind.i64.wrap ((i : Int) + 1) = (i + 1 : Nat) := by rw [IntWalk.i64_in _ (by omega)]; rfl
  have c1 : (out.length + 1) * 16 ≤ 140737488355328 := by omega
  have c2 : out.length ≤ 9223372036854775806 := by omega
  have c3 : (out.length + 1 + 1) * 16 ≤ 140737488355328 := by omega
  have c4 : out.length ≤ 9223372036854775805 := by omega
  rw [List.drop_eq_getElem_cons hlt, wIns] at hwi
  cases put with
  | true =>
   rw [if_neg (by simp)] at hwi
   repeat first|refine n1 ?_|refine n2 ?_|refine n3 ?_|refine n4 ?_|refine n5 ?_|refine n6 ?_|((first|refine rg 7 [0, 1, 5, 6, 7] [0, 1, 5, 6, 7] [] ?_|refine rg 8 [0, 1, 5, 6, 7] [0, 1, 5, 6, 7, 27] [(2, 20)] ?_|refine rg 11 [0, 1, 5, 6, 7] [0, 1, 5, 6, 7] [] ?_|refine nc ?_);simp (maxSteps := 1000000) [hF, hn, hlt, c1, c2, hw])
   refine nextK.of [0, 1, 5, 6, 7] [0] (m - 1) (by omega) (by simp [hF]) ?_
   exact ⟨i + 1, out ++ [l[i]], true, by omega, by simp, by simp; omega, hwi, by simp⟩
  | false =>
   cases hs : sLess s l[i] with
   | true =>
    rw [if_pos ⟨rfl, hs⟩] at hwi
    have hm2 : (strs (out ++ [s, l[i]])).mid 0 (out.length + 1 + 1) = strs (out ++ [s, l[i]]) := sq_mid_all _ _ (by simp)
    repeat first|refine n1 ?_|refine n2 ?_|refine n3 ?_|refine n4 ?_|refine n5 ?_|refine n6 ?_|((first|refine rg 7 [0, 1, 5, 6, 7] [0, 1, 5, 6, 7] [] ?_|refine rg 8 [0, 1, 5, 6, 7] [0, 1, 5, 6, 7, 27] [(2, 20)] ?_|refine rg 9 [0, 1, 5, 7] [0, 1, 5, 7] [] ?_|refine rg 10 [0, 1, 5, 7] [0, 1, 5, 6, 7] [] ?_|refine rg 11 [0, 1, 5, 6, 7] [0, 1, 5, 6, 7] [] ?_|refine nc ?_);simp (maxSteps := 1000000) [hF, hn, hlt, c1, c2, c3, c4, hw, hs, hm2])
    refine nextK.of [0, 1, 5, 6, 7] [0] (m - 1) (by omega) (by simp [hF]) ?_
    exact ⟨i + 1, out ++ [s] ++ [l[i]], true, by omega, by simp, by simp; have := hol0 rfl; omega, hwi, by simp⟩
   | false =>
    rw [if_neg (by rw [hs]; simp)] at hwi
    repeat first|refine n1 ?_|refine n2 ?_|refine n3 ?_|refine n4 ?_|refine n5 ?_|refine n6 ?_|((first|refine rg 7 [0, 1, 5, 6, 7] [0, 1, 5, 6, 7] [] ?_|refine rg 8 [0, 1, 5, 6, 7] [0, 1, 5, 6, 7, 27] [(2, 20)] ?_|refine rg 11 [0, 1, 5, 6, 7] [0, 1, 5, 6, 7] [] ?_|refine nc ?_);simp (maxSteps := 1000000) [hF, hn, hlt, c1, c2, hw, hs])
    refine nextK.of [0, 1, 5, 6, 7] [0] (m - 1) (by omega) (by simp [hF]) ?_
    exact ⟨i + 1, out ++ [l[i]], false, by omega, by simp; exact hol0 rfl, by simp; omega, hwi, by simp⟩
 ·have c1 : (out.length + 1) * 16 ≤ 140737488355328 := by omega
  have c2 : out.length ≤ 9223372036854775806 := by omega
  rw [List.drop_of_length_le (by omega), wIns] at hwi
  cases put with
  | true =>
   rw [if_pos rfl] at hwi
   repeat first|refine n1 ?_|refine n2 ?_|refine n7 ?_|((first|refine rg 12 [1, 5, 6] [1, 5, 40] [] ?_|refine rg 14 [5] [4] [] ?_|refine nc ?_);simp (maxSteps := 1000000) [hF])
   (try refine nr ?_);(repeat first|refine nb_ ?_|refine nl_ ?_);refine endK.o [4] [0] [] ?_;simp [hF, retK, covers, mpre, hwi]
  | false =>
   rw [if_neg (by simp)] at hwi
   have hl2 : (insS s l).length = out.length + 1 := by rw [← hwi]; simp
   repeat first|refine n1 ?_|refine n7 ?_|((first|refine rg 12 [1, 5, 6] [1, 5, 40] [] ?_|refine rg 13 [1, 5] [5] [] ?_|refine rg 14 [5] [4] [] ?_|refine nc ?_);simp (maxSteps := 1000000) [hF, c1, c2])
   (try refine nr ?_);(repeat first|refine nb_ ?_|refine nl_ ?_);refine endK.o [4] [0] [] ?_;simp [hF, retK, covers, mpre, hwi, hl2]
theorem with_not (ex : Bool) (l : List ByteArray) (s : ByteArray) (hl : l.length ≤ 1000000) (hh : hasS l s = false) : Meets Tryz.prog 64 [.sl true () 1 (strs l)] (.cons (.sub 0 [] 0 l.length ex) (.cons (avStr s) .nil))
  fun av X κ => av = .sub 1 [] 0 (insS s l).length false ∧ X = [.sl true () 1 (strs l), .sl true () 1 (strs (insS s l))] ∧ κ = [] :=
 warmL (with_i ex l s hl hh) (by simp [AV.chilled]) rfl (by simp [T.allOwn]) rfl
theorem ekeys_ok (ex : Bool) (l : List ByteArray) (hl : l.length ≤ 100000) : Meets Tryz.prog 58 [] (.cons (.imm 1 (strs l) ex) .nil)
  fun av X κ => (keysE l = 6 ∧ av = avTwo (.nils 1) 6 ∧ X = [] ∧ κ = []) ∨ (keysE l = 9 ∧ av = avTwo (.nils 1) 9 ∧ X = [] ∧ κ = []) ∨
   (keysE l = 0 ∧ av = avTwo (.sub 0 [] 0 (keysS l).length false) 0 ∧ X = [.sl true () 1 (strs (keysS l))] ∧ κ = []) := by
 refine fb Tryz.func58 Tryz.ntmps58 [.tmp 2, .tmp 3] fun w0 I0 F0 hF => ?_
 repeat first|refine n1 ?_|refine n3 ?_|((first|refine rg 0 [0] [0] [] ?_|refine rg 1 [0] [0, 4] [] ?_|refine rg 2 [0, 4] [0, 4, 5] [] ?_);simp (maxSteps := 1000000) [hF])
 refine VS.hold0 4 1 (by simp) ?_
 refine VS.pick [0, 4, 5] [0] (by simp [hF]) ?_;simp [hF]
 refine VS.rounds (fun m st => ∃ (i : Nat), i + m = l.length ∧ (∀ j, (h : j < l.length) → j < i → isKeyB l[j] = true) ∧ st = ⟨[(0, .imm 1 (strs l) ex), (4, .sub 0 [] 0 (keysS (l.take i)).length false), (5, avInt i)], [.sl true () 1 (strs (keysS (l.take i)))], [], []⟩)
  ⟨l.length, 0, by omega, by omega, by simp [keysS]⟩ ?_
 rintro m st ⟨i, hi, hall, rfl⟩
 have hkl := keysS_len (l.take i)
 rw [List.length_take] at hkl
 repeat first|refine n1 ?_|((first|refine rg 3 [0, 4, 5] [0, 4, 5, 9] [] ?_|refine nc ?_);simp (maxSteps := 1000000) [hF])
 refine ⟨fun hlt => ?_, fun hge => ?_⟩
 ·have hn := strs_nth hlt
  have hw : IntKind.i64.wrap ((i : Int) + 1) = (i + 1 : Nat) := by rw [IntWalk.i64_in _ (by omega)]; rfl
  have hst := keysS_take hlt
  repeat first|refine n1 ?_|refine n2 ?_|refine n3 ?_|(refine rg 5 [0, 4, 5] [0, 4, 5, 17] [] ?_;simp (maxSteps := 1000000) [hF, hn, hlt])
  cases hp : isKeyB l[i] with
  | false =>
   have he : keysE l = 6 := by
    have : ¬ l.all isKeyB = true := fun h => by rw [List.all_eq_true.1 h _ (List.getElem_mem hlt)] at hp; cases hp
    simp [keysE, this]
   refine (eisKey_ok l[i]).go [] (by simp (maxSteps := 1000000) [hF, hp]) ?_;rintro av X κ ⟨rfl, rfl, rfl⟩;simp (maxSteps := 1000000) [hF, hp]
   repeat first|refine n1 ?_|((first|refine rg 6 [] [2, 3] [] ?_|refine nc ?_);simp (maxSteps := 1000000) [hF])
   (try refine nr ?_);(repeat first|refine nb_ ?_|refine nl_ ?_);refine endK.o [2, 3] [] [] ?_;simp [hF, retK, covers, mpre, he]
  | true =>
   have hall' : ∀ j, (h : j < l.length) → j < i + 1 → isKeyB l[j] = true := fun j h hj => by
    rcases Nat.lt_or_ge j i with h' | h'
    ·exact hall j h h'
    ·obtain rfl : j = i := by omega
     exact hp
   refine (eisKey_ok l[i]).go [] (by simp (maxSteps := 1000000) [hF, hp]) ?_;rintro av X κ ⟨rfl, rfl, rfl⟩;simp (maxSteps := 1000000) [hF, hp]
   repeat first|refine n2 ?_|((first|refine rg 7 [0, 4, 5] [0, 4, 5] [] ?_|refine nc ?_);simp (maxSteps := 1000000) [hF, hn, hlt])
   cases hh : hasS (keysS (l.take i)) l[i] with
   | true =>
    rw [insS_has (keysS_asc _) hh] at hst
    refine (with_has false (keysS (l.take i)) l[i] (by omega) hh).go [(0, [])] (by simp (maxSteps := 1000000) [hF]) ?_;rintro av X κ ⟨rfl, rfl, rfl⟩;simp (maxSteps := 1000000) [hF]
    repeat first|refine n4 ?_|refine n5 ?_|refine n6 ?_|(refine rg 4 [0, 4, 5] [0, 4, 5] [] ?_;simp (maxSteps := 1000000) [hF, hw])
    refine nextK.of [0, 4, 5] [0] (m - 1) (by omega) (by simp [hF]) ?_
    exact ⟨i + 1, by omega, hall', by simp [hst]⟩
   | false =>
    refine (with_not false (keysS (l.take i)) l[i] (by omega) hh).go [(0, [])] (by simp (maxSteps := 1000000) [hF]) ?_;rintro av X κ ⟨rfl, rfl, rfl⟩;simp (maxSteps := 1000000) [hF]
    repeat first|refine n4 ?_|refine n5 ?_|refine n6 ?_|(refine rg 4 [0, 4, 5] [0, 4, 5] [] ?_;simp (maxSteps := 1000000) [hF, hw])
    refine nextK.of [0, 4, 5] [1] (m - 1) (by omega) (by simp [hF]) ?_
    exact ⟨i + 1, by omega, hall', by simp [hst]⟩
 ·rw [List.take_of_length_le (by omega)] at hkl ⊢
  have ha : l.all isKeyB = true := List.all_eq_true.2 fun x hx => by
   obtain ⟨j, hj, rfl⟩ := List.getElem_of_mem hx
   exact hall j hj (by omega)
  by_cases hb : 30 < (keysS l).length
  ·have he : keysE l = 9 := by simp [keysE, ha, hb]
   have hbi : (30 : Int) < (keysS l).length := by omega
   repeat first|refine n1 ?_|refine n7 ?_|((first|refine rg 8 [4] [4, 26] [] ?_|refine rg 9 [] [2, 3] [] ?_|refine nc ?_);simp (maxSteps := 1000000) [hF, hb, hbi])
   (try refine nr ?_);(repeat first|refine nb_ ?_|refine nl_ ?_);refine endK.o [2, 3] [] [] ?_;simp [hF, retK, covers, mpre, he]
  ·have he : keysE l = 0 := by simp [keysE, ha, hb]
   have hbi : ¬ (30 : Int) < (keysS l).length := by omega
   repeat first|refine n1 ?_|refine n2 ?_|refine n7 ?_|((first|refine rg 8 [4] [4, 26] [] ?_|refine rg 10 [4] [2, 3] [] ?_|refine nc ?_);simp (maxSteps := 1000000) [hF, hb, hbi])
   (try refine nr ?_);(repeat first|refine nb_ ?_|refine nl_ ?_);refine endK.o [2, 3] [0] [] ?_;simp [hF, retK, covers, mpre, he]
theorem ekeys_6 (ex : Bool) (l : List ByteArray) (hl : l.length ≤ 100000) (he : keysE l = 6) : Meets Tryz.prog 58 [] (.cons (.imm 1 (strs l) ex) .nil) fun av X κ => av = avTwo (.nils 1) 6 ∧ X = [] ∧ κ = [] :=
 Meets.mono (ekeys_ok ex l hl) (by rintro av X κ (⟨_, h⟩ | ⟨h, _⟩ | ⟨h, _⟩); exact h; omega; omega)
theorem ekeys_9 (ex : Bool) (l : List ByteArray) (hl : l.length ≤ 100000) (he : keysE l = 9) : Meets Tryz.prog 58 [] (.cons (.imm 1 (strs l) ex) .nil) fun av X κ => av = avTwo (.nils 1) 9 ∧ X = [] ∧ κ = [] :=
 Meets.mono (ekeys_ok ex l hl) (by rintro av X κ (⟨h, _⟩ | ⟨_, h⟩ | ⟨h, _⟩); omega; exact h; omega)
theorem ekeys_0 (ex : Bool) (l : List ByteArray) (hl : l.length ≤ 100000) (he : keysE l = 0) : Meets Tryz.prog 58 [] (.cons (.imm 1 (strs l) ex) .nil) fun av X κ => av = avTwo (.sub 0 [] 0 (keysS l).length false) 0 ∧ X = [.sl true () 1 (strs (keysS l))] ∧ κ = [] :=
 Meets.mono (ekeys_ok ex l hl) (by rintro av X κ (⟨h, _⟩ | ⟨h, _⟩ | ⟨_, h⟩); omega; omega; exact h)
theorem easked_ok (g : Gb) (k : ByteArray) : Meets Tryz.prog 67 [] (.cons (avE g) (.cons (avStr k) .nil)) fun av X κ => av = avInt (if isKeyB k = true then 0 else 6) ∧ X = [] ∧ κ = [] := by
 refine fb Tryz.func67 Tryz.ntmps67 [.tmp 4] fun w0 I0 F0 hF => ?_
 repeat first|refine n1 ?_|refine n2 ?_|((first|refine rg 0 [0, 1] [0, 1] [] ?_|refine rg 1 [0, 1] [1, 13] [(2, 7)] ?_|refine rg 3 [1] [16] [] ?_|refine nc ?_);simp (maxSteps := 1000000) [hF, eBb])
 cases hk : isKeyB k with
 | false =>
  refine (eisKey_ok k).go [] (by simp (maxSteps := 1000000) [hF, hk]) ?_;rintro av X κ ⟨rfl, rfl, rfl⟩;simp (maxSteps := 1000000) [hF, hk]
  repeat first|refine n1 ?_|((first|refine rg 4 [] [4] [] ?_|refine nc ?_);simp (maxSteps := 1000000) [hF])
  (try refine nr ?_);(repeat first|refine nb_ ?_|refine nl_ ?_);refine endK.o [4] [] [] ?_;simp [hF, retK, covers, mpre]
 | true =>
  refine (eisKey_ok k).go [] (by simp (maxSteps := 1000000) [hF, hk]) ?_;rintro av X κ ⟨rfl, rfl, rfl⟩;simp (maxSteps := 1000000) [hF, hk]
  repeat first|refine n1 ?_|refine n2 ?_|((first|refine rg 5 [] [4] [] ?_|refine nc ?_);simp (maxSteps := 1000000) [hF])
  (try refine nr ?_);(repeat first|refine nb_ ?_|refine nl_ ?_);refine endK.o [4] [] [] ?_;simp [hF, retK, covers, mpre]
theorem easked_c (g : Gb) (k : ByteArray) : Meets Tryz.prog 67 [eBk g] (.cons (.ptr 0 [.d]) (.cons (avStr k) .nil)) fun av X κ => av = avInt (if isKeyB k = true then 0 else 6) ∧ X = [eBk g] ∧ κ = [] :=
 warmE (easked_ok g k) rfl rfl (by simp) rfl
theorem eup_ok (g : Gb) (u : Int) : Meets Tryz.prog 39 [] (.cons (avE g) (.cons (avInt u) .nil)) fun av X κ => av = avTwo (avBool (upQ g u).1) (upQ g u).2 ∧ X = [] ∧ κ = [] := by
 by_cases hh : hasB g u = true
 ·obtain ⟨i, hi, rfl, hu, _⟩ := unOf_mem hh
  have hn := dUns_nth (o := false) hi
  have hq : upQ g i = (g.units[i].up, 0) := by simp [upQ, hh, hu]
  have hii : (i : Int) < g.units.length := by omega
  refine fb Tryz.func39 Tryz.ntmps39 [.tmp 4, .tmp 5] fun w0 I0 F0 hF => ?_
  repeat first|refine n1 ?_|((first|refine rg 0 [0, 1] [0, 1] [] ?_|refine rg 1 [0, 1] [0, 1, 9] [] ?_);simp (maxSteps := 1000000) [hF])
  refine (ethere_ok g i).go [] (by simp (maxSteps := 1000000) [hF, hh]) ?_;rintro av X κ ⟨rfl, rfl, rfl⟩;simp (maxSteps := 1000000) [hF, hh]
  repeat first|refine n1 ?_|refine n2 ?_|((first|refine rg 3 [0, 1] [4, 5] [] ?_|refine nc ?_);simp (maxSteps := 1000000) [hF, eBb, hn, hi, hii])
  (try refine nr ?_);(repeat first|refine nb_ ?_|refine nl_ ?_);refine endK.o [4, 5] [] [] ?_;simp [hF, retK, covers, mpre, hq]
 ·have hh : hasB g u = false := by simpa using hh
  have hq : upQ g u = (false, 1) := by simp [upQ, hh]
  refine fb Tryz.func39 Tryz.ntmps39 [.tmp 4, .tmp 5] fun w0 I0 F0 hF => ?_
  repeat first|refine n1 ?_|((first|refine rg 0 [0, 1] [0, 1] [] ?_|refine rg 1 [0, 1] [0, 1, 9] [] ?_);simp (maxSteps := 1000000) [hF])
  refine (ethere_ok g u).go [] (by simp (maxSteps := 1000000) [hF, hh]) ?_;rintro av X κ ⟨rfl, rfl, rfl⟩;simp (maxSteps := 1000000) [hF, hh]
  repeat first|refine n1 ?_|((first|refine rg 2 [] [4, 5] [] ?_|refine nc ?_);simp (maxSteps := 1000000) [hF])
  (try refine nr ?_);(repeat first|refine nb_ ?_|refine nl_ ?_);refine endK.o [4, 5] [] [] ?_;simp [hF, retK, covers, mpre, hq]
theorem ekeysof_ok {n : Nat} (g : Gb) (b : Bk n g) (u : Int) : Meets Tryz.prog 41 [] (.cons (avE g) (.cons (avInt u) .nil))
  fun av X κ => av = avTwo (.sub 0 [] 0 (keysQ g u).1.length false) (keysQ g u).2 ∧ X = [.sl true () 1 (strs (keysQ g u).1)] ∧ κ = [] := by
 by_cases hh : hasB g u = true
 ·obtain ⟨i, hi, rfl, hu, _⟩ := unOf_mem hh
  have hn := dUns_nth (o := false) hi
  have hq : keysQ g i = (g.units[i].keys, 0) := by simp [keysQ, hh, hu]
  have hii : (i : Int) < g.units.length := by omega
  have hk := (b.asc _ (List.getElem_mem hi)).2
  have c1 : g.units[i].keys.length * 16 ≤ 140737488355328 := by omega
  have c2 : g.units[i].keys.length ≤ 9223372036854775807 := by omega
  have hm := strs_mid_all g.units[i].keys
  refine fb Tryz.func41 Tryz.ntmps41 [.tmp 4, .tmp 5] fun w0 I0 F0 hF => ?_
  repeat first|refine n1 ?_|((first|refine rg 0 [0, 1] [0, 1] [] ?_|refine rg 1 [0, 1] [0, 1, 9] [] ?_);simp (maxSteps := 1000000) [hF])
  refine (ethere_ok g i).go [] (by simp (maxSteps := 1000000) [hF, hh]) ?_;rintro av X κ ⟨rfl, rfl, rfl⟩;simp (maxSteps := 1000000) [hF, hh]
  repeat first|refine n1 ?_|refine n2 ?_|((first|refine rg 3 [0, 1] [4, 5] [] ?_|refine nc ?_);simp (maxSteps := 1000000) [hF, eBb, hn, hi, hii, c1, c2, hm])
  all_goals (repeat' refine And.intro ?_ ?_)
  all_goals ((try refine nr ?_);(repeat first|refine nb_ ?_|refine nl_ ?_);refine endK.o [4, 5] [0] [] ?_;simp [hF, retK, covers, mpre, hq])
 ·have hh : hasB g u = false := by simpa using hh
  have hq : keysQ g u = ([], 1) := by simp [keysQ, hh]
  refine fb Tryz.func41 Tryz.ntmps41 [.tmp 4, .tmp 5] fun w0 I0 F0 hF => ?_
  repeat first|refine n1 ?_|((first|refine rg 0 [0, 1] [0, 1] [] ?_|refine rg 1 [0, 1] [0, 1, 9] [] ?_);simp (maxSteps := 1000000) [hF])
  refine (ethere_ok g u).go [] (by simp (maxSteps := 1000000) [hF, hh]) ?_;rintro av X κ ⟨rfl, rfl, rfl⟩;simp (maxSteps := 1000000) [hF, hh]
  repeat first|refine n1 ?_|((first|refine rg 2 [] [4, 5] [] ?_|refine nc ?_);simp (maxSteps := 1000000) [hF])
  refine VS.hold0 4 1 (by simp) ?_
  (try refine nr ?_);(repeat first|refine nb_ ?_|refine nl_ ?_);refine endK.o [4, 5] [0] [] ?_;simp [hF, retK, covers, mpre, hq]
theorem eserial_ok {n : Nat} (g : Gb) (b : Bk n g) (hn : n ≤ 1000000) (k : ByteArray) : Meets Tryz.prog 45 [] (.cons (avE g) (.cons (avStr k) .nil)) fun av X κ => av = avTwo (avInt (serialQ g k).1) (serialQ g k).2 ∧ X = [] ∧ κ = [] := by
 have hml := movedOf_len b
 refine fb Tryz.func45 Tryz.ntmps45 [.tmp 4, .tmp 5] fun w0 I0 F0 hF => ?_
 repeat first|refine n1 ?_|((first|refine rg 0 [0, 1] [0, 1] [] ?_|refine rg 1 [0, 1] [0, 1, 6] [] ?_);simp (maxSteps := 1000000) [hF])
 cases hk : isKeyB k with
 | false =>
  have hq : serialQ g k = (0, 6) := by simp [serialQ, hk]
  refine (easked_ok g k).go [] (by simp (maxSteps := 1000000) [hF, hk]) ?_;rintro av X κ ⟨rfl, rfl, rfl⟩;simp (maxSteps := 1000000) [hF, hk]
  repeat first|refine n1 ?_|((first|refine rg 2 [0, 1, 6] [0, 1, 6, 12] [] ?_|refine rg 3 [6] [4, 5] [] ?_|refine nc ?_);simp (maxSteps := 1000000) [hF])
  (try refine nr ?_);(repeat first|refine nb_ ?_|refine nl_ ?_);refine endK.o [4, 5] [] [] ?_;simp [hF, retK, covers, mpre, hq]
 | true =>
  have hq : serialQ g k = (serOf g.ser k, 0) := by simp [serialQ, hk]
  refine (easked_ok g k).go [] (by simp (maxSteps := 1000000) [hF, hk]) ?_;rintro av X κ ⟨rfl, rfl, rfl⟩;simp (maxSteps := 1000000) [hF, hk]
  repeat first|refine n1 ?_|refine n2 ?_|refine n3 ?_|((first|refine rg 2 [0, 1, 6] [0, 1, 6, 12] [] ?_|refine rg 4 [0, 1] [0, 1, 7] [] ?_|refine nc ?_);simp (maxSteps := 1000000) [hF])
  refine VS.rounds (fun m st => ∃ (i : Nat), i + m = (movedOf g).length ∧ (∀ j, (h : j < (movedOf g).length) → j < i → ¬ (movedOf g)[j] = k) ∧ st = ⟨[(0, avE g), (1, avStr k), (7, avInt i)], [], [], []⟩) ⟨(movedOf g).length, 0, by omega, by omega, by simp⟩ ?_
  rintro m st ⟨i, hi, hall, rfl⟩
  repeat first|refine n1 ?_|((first|refine rg 5 [0, 1, 7] [0, 1, 7, 20] [] ?_|refine nc ?_);simp (maxSteps := 1000000) [hF, eBb])
  refine ⟨fun hlt => ?_, fun hge => ?_⟩
  ·have hn1 := strs_nth hlt
   have hsl : i < (serials g).length := by simpa using hlt
   have hn2 := dInts_nth hsl
   have hse : (serials g)[i] = serOf g.ser (movedOf g)[i] := by simp [serials]
   have hw : IntKind.i64.wrap ((i : Int) + 1) = (i + 1 : Nat) := by rw [IntWalk.i64_in _ (by omega)]; rfl
   by_cases hp : (movedOf g)[i] = k
   ·rw [hse, hp] at hn2
    have hli : (i : Int) < (movedOf g).length := by omega
    repeat first|refine n1 ?_|refine n2 ?_|refine n3 ?_|((first|refine rg 7 [0, 1, 7] [0, 1, 7, 31] [] ?_|refine rg 8 [0, 7] [4, 5] [] ?_|refine nc ?_);simp (maxSteps := 1000000) [hF, eBb, hn1, hlt, hp, hn2, hli])
    (try refine nr ?_);(repeat first|refine nb_ ?_|refine nl_ ?_);refine endK.o [4, 5] [] [] ?_;simp [hF, retK, covers, mpre, hq]
   ·repeat first|refine n1 ?_|refine n2 ?_|refine n3 ?_|refine n4 ?_|refine n5 ?_|refine n6 ?_|((first|refine rg 6 [0, 1, 7] [0, 1, 7] [] ?_|refine rg 7 [0, 1, 7] [0, 1, 7, 31] [] ?_|refine nc ?_);simp (maxSteps := 1000000) [hF, eBb, hn1, hlt, hp, hw])
    refine nextK.of [0, 1, 7] [] (m - 1) (by omega) (by simp [hF]) ?_
    refine ⟨i + 1, by omega, ?_, by simp [eBb]⟩
    intro j hj hji
    rcases Nat.lt_or_ge j i with h' | h'
    ·exact hall j hj h'
    ·obtain rfl : j = i := by omega
     exact hp
  ·have hno : serOf g.ser k = 0 := serOf_none fun hm => by
    obtain ⟨j, hj, e⟩ := List.getElem_of_mem hm
    exact hall j hj (by omega) e
   repeat first|refine n1 ?_|refine n7 ?_|(refine rg 9 [] [4, 5] [] ?_;simp (maxSteps := 1000000) [hF])
   (try refine nr ?_);(repeat first|refine nb_ ?_|refine nl_ ?_);refine endK.o [4, 5] [] [] ?_;simp [hF, retK, covers, mpre, hq, hno]
theorem emoves_ok {n : Nat} (g : Gb) (b : Bk n g) (hn : n ≤ 1000000) : Meets Tryz.prog 18 [] (.cons (avE g) .nil)
  fun av X κ => av = .sub 0 [] 0 (movedOf g).length false ∧ X = [.sl true () 1 (strs (movedOf g))] ∧ κ = [] := by
 have hml := movedOf_len b
 have c1 : (movedOf g).length * 16 ≤ 140737488355328 := by omega
 have c2 : (movedOf g).length ≤ 9223372036854775807 := by omega
 have hm := strs_mid_all (movedOf g)
 refine fb Tryz.func18 Tryz.ntmps18 [.tmp 2] fun w0 I0 F0 hF => ?_
 repeat first|refine n1 ?_|refine n2 ?_|((first|refine rg 0 [0] [0] [] ?_|refine rg 1 [0] [0, 4] [] ?_|refine rg 3 [0] [2] [] ?_|refine nc ?_);simp (maxSteps := 1000000) [hF, eBb, c1, c2, hm])
 all_goals (repeat' refine And.intro ?_ ?_)
 all_goals ((try refine nr ?_);(repeat first|refine nb_ ?_|refine nl_ ?_);refine endK.o [2] [0] [] ?_;simp [hF, retK, covers, mpre])
theorem eone_ok {n : Nat} (g : Gb) (b : Bk n g) (i : Nat) (hi : i < g.units.length) : Meets Tryz.prog 66 [] (.cons (avE g) (.cons (avInt i) .nil))
  fun av X κ => av = .sub 0 [] 0 g.units.length true ∧ X = [.sl true () 1 (dBools ((List.replicate g.units.length false).set i true))] ∧ κ = [] := by
 have hul := b.len
 have b1 : (g.units.length : Int) ≤ 140737488355328 := by omega
 have b2 : (g.units.length : Int) ≤ 9223372036854775807 := by omega
 have hz := zeros_bools g.units.length
 have hii : (i : Int) < g.units.length := by omega
 have hset := dBools_set (List.replicate g.units.length false) i true
 have hn : (dBools (List.replicate g.units.length false)).nth i = .val (.bool false) := by rw [dBools_nth (by simpa using hi)]; simp
 refine fb Tryz.func66 Tryz.ntmps66 [.tmp 4] fun w0 I0 F0 hF => ?_
 repeat first|refine n1 ?_|((first|refine rg 0 [0, 1] [0, 1] [] ?_|refine rg 1 [0, 1] [1, 5] [] ?_|refine rg 2 [1, 5] [5] [] ?_|refine rg 3 [5] [4] [] ?_);simp (maxSteps := 1000000) [hF, eBb, b1, b2, hz, hi, hii, hset, hn])
 (try refine nr ?_);(repeat first|refine nb_ ?_|refine nl_ ?_);refine endK.o [4] [0] [] ?_;simp [hF, retK, covers, mpre]
theorem ecarried_ok {n : Nat} (g : Gb) (b : Bk n g) (S : Nat → Prop) (M0 : List Bool) (h0 : Cm g.units S M0) (ex : Bool) : Meets Tryz.prog 65 [.sl true () 1 (dBools M0)] (.cons (avE g) (.cons (.sub 0 [] 0 g.units.length ex) .nil))
  fun av X κ => av = .sub 0 [] 0 g.units.length ex ∧ X = [.sl true () 1 (dBools (aboveOf g.units S))] ∧ κ = [(0, [.i 0])] := by
 have hul := b.len
 refine fb Tryz.func65 Tryz.ntmps65 [.tmp 4] fun w0 I0 F0 hF => ?_
 repeat first|refine n1 ?_|refine n3 ?_|((first|refine rg 0 [0, 1] [0, 1] [] ?_|refine rg 1 [0, 1] [0, 1, 5] [] ?_);simp (maxSteps := 1000000) [hF])
 refine VS.widen [(0, [.i 0])] (by simp [covers, mpre]) ?_
 refine VS.rounds (fun m st => ∃ (M : List Bool) (again : Bool), Cm g.units S M ∧ (again = false → ∀ x, x < g.units.length → closedAt g.units M x) ∧ cF M + (if again = true then 1 else 0) = m ∧
   st = ⟨[(0, avE g), (1, .sub 0 [] 0 g.units.length ex), (5, avBool again)], [.sl true () 1 (dBools M)], [(0, [.i 0])], []⟩) ⟨cF M0 + 1, M0, true, h0, by simp, rfl, by simp⟩ ?_
 rintro m st ⟨M, again, hc, hcl, hm, rfl⟩
 cases again with
 | false =>
  have hd := hc.done (hcl rfl)
  subst hd
  repeat first|refine n1 ?_|refine n7 ?_|((first|refine rg 2 [0, 1, 5] [0, 1, 9] [] ?_|refine rg 15 [1] [4] [] ?_|refine nc ?_);simp (maxSteps := 1000000) [hF])
  (try refine nr ?_);(repeat first|refine nb_ ?_|refine nl_ ?_);refine endK.o [4] [0] [(0, [.i 0])] ?_;simp [hF, retK, covers, mpre]
 | true =>
  simp only [if_true] at hm
  clear hcl
  repeat first|refine n1 ?_|refine n2 ?_|refine n3 ?_|((first|refine rg 2 [0, 1, 5] [0, 1, 9] [] ?_|refine rg 3 [0, 1] [0, 1, 5] [] ?_|refine rg 4 [0, 1, 5] [0, 1, 5, 6] [] ?_|refine nc ?_);simp (maxSteps := 1000000) [hF])
  refine VS.rounds (fun m2 st => ∃ (i : Nat) (M' : List Bool) (ag : Bool), i + m2 = g.units.length ∧ Cm g.units S M' ∧ (ag = false → ∀ x, x < i → closedAt g.units M' x) ∧ cF M' + (if ag = true then 1 else 0) ≤ cF M ∧
    st = ⟨[(0, avE g), (1, .sub 0 [] 0 g.units.length ex), (5, avBool ag), (6, avInt i)], [.sl true () 1 (dBools M')], [(0, [.i 0])], []⟩) ⟨g.units.length, 0, M, false, by omega, hc, by intro _ x hx; omega, by simp, by simp⟩ ?_
  rintro m2 st ⟨i, M', ag, hi, hc', hcl, hcf, rfl⟩
  have hl' := hc'.len
  repeat first|refine n1 ?_|((first|refine rg 5 [0, 1, 5, 6] [0, 1, 5, 6, 16] [] ?_|refine nc ?_);simp (maxSteps := 1000000) [hF, eBb])
  refine ⟨fun hlt => ?_, fun hge => ?_⟩
  ·have hiM : i < M'.length := by omega
   have hbn := dBools_nth hiM
   have hii : (i : Int) < g.units.length := by omega
   have hw : IntKind.i64.wrap ((i : Int) + 1) = (i + 1 : Nat) := by rw [IntWalk.i64_in _ (by omega)]; rfl
   cases hb : M'[i] with
   | false =>
    rw [hb] at hbn
    have hcl' : ag = false → ∀ x, x < i + 1 → closedAt g.units M' x := fun h x hx => by
     rcases Nat.lt_or_ge x i with h1 | h1
     ·exact hcl h x h1
     ·obtain rfl : x = i := by omega
      intro hx'
      rw [getD_at hiM, hb] at hx'; cases hx'
    repeat first|refine n1 ?_|refine n2 ?_|refine n3 ?_|refine n4 ?_|refine n6 ?_|refine n7 ?_|refine n8 ?_|((first|refine rg 6 [0, 1, 5, 6] [0, 1, 5, 6] [] ?_|refine rg 7 [0, 1, 5, 6] [0, 1, 5, 6, 23] [] ?_|refine nc ?_);simp (maxSteps := 1000000) [hF, eBb, hbn, hiM, hii, hlt, hl', hw])
    refine nextK.of [0, 1, 5, 6] [0] (m2 - 1) (by omega) (by simp [hF]) ?_
    exact ⟨i + 1, M', ag, by omega, hc', hcl', hcf, by simp⟩
   | true =>
    rw [hb] at hbn
    have hn := dUns_nth (o := false) hlt
    have hil := b.inLen i
    rw [innOf_at hlt] at hil
    repeat first|refine n1 ?_|refine n2 ?_|refine n3 ?_|((first|refine rg 7 [0, 1, 5, 6] [0, 1, 5, 6, 23] [] ?_|refine rg 8 [0, 1, 5, 6] [0, 1, 5, 6, 7] [] ?_|refine rg 9 [0, 1, 5, 6, 7] [0, 1, 5, 6, 7, 8] [] ?_|refine nc ?_);simp (maxSteps := 1000000) [hF, eBb, hbn, hiM, hii, hlt, hl', hn])
    refine VS.rounds (fun m3 st => ∃ (j : Nat) (M2 : List Bool) (a2 : Bool), j + m3 = g.units[i].inn.length ∧ Cm g.units S M2 ∧ M2.getD i false = true ∧ (a2 = false → ∀ x, x < i → closedAt g.units M2 x) ∧ (a2 = false → ∀ t, (h : t < g.units[i].inn.length) → t < j → M2.getD g.units[i].inn[t] false = true) ∧ cF M2 + (if a2 = true then 1 else 0) ≤ cF M ∧
      st = ⟨[(0, avE g), (1, .sub 0 [] 0 g.units.length ex), (5, avBool a2), (6, avInt i), (7, .imm 1 (dInts (nats g.units[i].inn)) false), (8, avInt j)], [.sl true () 1 (dBools M2)], [(0, [.i 0])], []⟩)
     ⟨g.units[i].inn.length, 0, M', ag, by omega, hc', by rw [getD_at hiM, hb], hcl, by intro _ t _ ht; omega, hcf, by simp⟩ ?_
    rintro m3 st ⟨j, M2, a2, hj, hc2, hMi, hcl2, htl, hcf2, rfl⟩
    have hl2 := hc2.len
    repeat first|refine n1 ?_|((first|refine rg 10 [0, 1, 5, 6, 7, 8] [0, 1, 5, 6, 7, 8, 35] [] ?_|refine nc ?_);simp (maxSteps := 1000000) [hF])
    refine ⟨fun hjl => ?_, fun hjge => ?_⟩
    ·have hjn : j < (nats g.units[i].inn).length := by simpa using hjl
     have hin := dInts_nth hjn
     rw [nats_at hjn] at hin
     have hym := List.getElem_mem hjl
     have hw2 : IntKind.i64.wrap ((j : Int) + 1) = (j + 1 : Nat) := by rw [IntWalk.i64_in _ (by omega)]; rfl
     generalize hy : g.units[i].inn[j] = y at *
     have hyl : y < g.units.length := (b.ins _ (List.getElem_mem hlt)).2 y hym
     have hyi : y ∈ innOf g.units i := by rw [innOf_at hlt]; exact hym
     have hyM : y < M2.length := by omega
     have hyii : (y : Int) < g.units.length := by omega
     have hbn2 := dBools_nth hyM
     cases hb2 : M2[y] with
     | true =>
      rw [hb2] at hbn2
      have htl' : a2 = false → ∀ t, (h : t < g.units[i].inn.length) → t < j + 1 → M2.getD g.units[i].inn[t] false = true := fun h t ht htj => by
       rcases Nat.lt_or_ge t j with h1 | h1
       ·exact htl h t ht h1
       ·obtain rfl : t = j := by omega
        rw [hy, getD_at hyM, hb2]
      repeat first|refine n1 ?_|refine n2 ?_|refine n3 ?_|refine n4 ?_|refine n5 ?_|refine n6 ?_|((first|refine rg 11 [0, 1, 5, 6, 7, 8] [0, 1, 5, 6, 7, 8] [] ?_|refine rg 12 [0, 1, 5, 6, 7, 8] [0, 1, 5, 6, 7, 8, 45] [] ?_|refine nc ?_);simp (maxSteps := 1000000) [hF, hin, hjl, hbn2, hyM, hyii, hyl, hl2, hw2])
      refine nextK.of [0, 1, 5, 6, 7, 8] [0] (m3 - 1) (by omega) (by simp [hF]) ?_
      exact ⟨j + 1, M2, a2, by omega, hc2, hMi, hcl2, htl', hcf2, by simp⟩
     | false =>
      rw [hb2] at hbn2
      have hset := dBools_set M2 y true
      have hmk := cF_mark hyM hb2
      have hc3 := hc2.mark hMi hyi hyl
      have hMi3 : (M2.set y true).getD i false = true := by
       by_cases e : y = i
       ·subst e; exact getD_set_self hyM true
       ·rw [getD_set_ne e]; exact hMi
      repeat first|refine n1 ?_|refine n2 ?_|refine n3 ?_|refine n4 ?_|refine n5 ?_|((first|refine rg 12 [0, 1, 5, 6, 7, 8] [0, 1, 5, 6, 7, 8, 45] [] ?_|refine rg 13 [0, 1, 6, 7, 8] [0, 1, 6, 7, 8] [] ?_|refine rg 14 [0, 1, 6, 7, 8] [0, 1, 5, 6, 7, 8] [] ?_|refine nc ?_);simp (maxSteps := 1000000) [hF, hin, hjl, hbn2, hyM, hyii, hyl, hl2, hset])
      refine VS.widen [(0, [.i 0])] (by simp [covers, mpre]) ?_
      repeat first|refine n4 ?_|refine n6 ?_|(refine rg 11 [0, 1, 5, 6, 7, 8] [0, 1, 5, 6, 7, 8] [] ?_;simp (maxSteps := 1000000) [hF, hw2])
      refine nextK.of [0, 1, 5, 6, 7, 8] [0] (m3 - 1) (by omega) (by simp [hF]) ?_
      refine ⟨j + 1, M2.set y true, true, by omega, hc3, hMi3, (fun h => by cases h), (fun h => by cases h), ?_, by simp⟩
      simp only [if_true]
      split at hcf2 <;> omega
    ·have hcl' : a2 = false → ∀ x, x < i + 1 → closedAt g.units M2 x := fun h x hx => by
      rcases Nat.lt_or_ge x i with h1 | h1
      ·exact hcl2 h x h1
      ·obtain rfl : x = i := by omega
       intro _ y hy
       rw [innOf_at hlt] at hy
       obtain ⟨t, ht, rfl⟩ := List.getElem_of_mem hy
       exact htl h t ht (by omega)
     repeat first|refine n4 ?_|refine n5 ?_|refine n6 ?_|refine n7 ?_|(refine rg 6 [0, 1, 5, 6] [0, 1, 5, 6] [] ?_;simp (maxSteps := 1000000) [hF, hw])
     refine nextK.of [0, 1, 5, 6] [0] (m2 - 1) (by omega) (by simp [hF]) ?_
     exact ⟨i + 1, M2, a2, by omega, hc2, hcl', hcf2, by simp⟩
  ·have hcl' : ag = false → ∀ x, x < g.units.length → closedAt g.units M' x := fun h x hx => hcl h x (by omega)
   repeat first|refine n4 ?_|refine n6 ?_|refine n7 ?_
   refine nextK.of [0, 1, 5] [0] ((cF M' + (if ag = true then 1 else 0))) (by omega) (by simp [hF]) ?_
   exact ⟨M', ag, hc', hcl', rfl, by simp⟩
theorem enumb_ok (ex : Bool) (M : List Bool) (hl : M.length ≤ 1000000) : Meets Tryz.prog 72 [] (.cons (.imm 1 (dBools M) ex) .nil)
  fun av X κ => av = .sub 0 [] 0 (numb M).length false ∧ X = [.sl true () 1 (dInts (nats (numb M)))] ∧ κ = [] := by
 refine fb Tryz.func72 Tryz.ntmps72 [.tmp 2] fun w0 I0 F0 hF => ?_
 repeat first|refine n1 ?_|refine n3 ?_|((first|refine rg 0 [0] [0] [] ?_|refine rg 1 [0] [0, 3] [] ?_|refine rg 2 [0, 3] [0, 3, 4] [] ?_);simp (maxSteps := 1000000) [hF])
 refine VS.hold0 3 1 (by simp) ?_
 refine VS.pick [0, 3, 4] [0] (by simp [hF]) ?_;simp [hF]
 refine VS.rounds (fun m st => ∃ (i : Nat), i + m = M.length ∧ st = ⟨[(0, .imm 1 (dBools M) ex), (3, .sub 0 [] 0 (numb (M.take i)).length false), (4, avInt i)], [.sl true () 1 (dInts (nats (numb (M.take i))))], [], []⟩) ⟨M.length, 0, by omega, by simp⟩ ?_
 rintro m st ⟨i, hi, rfl⟩
 have hnl : (numb (M.take i)).length ≤ i := Nat.le_trans (numb_len _) (by simp; omega)
 repeat first|refine n1 ?_|((first|refine rg 3 [0, 3, 4] [0, 3, 4, 8] [] ?_|refine nc ?_);simp (maxSteps := 1000000) [hF])
 refine ⟨fun hlt => ?_, fun hge => ?_⟩
 ·have hn := dBools_nth hlt
  have hw : IntKind.i64.wrap ((i : Int) + 1) = (i + 1 : Nat) := by rw [IntWalk.i64_in _ (by omega)]; rfl
  have hs := numb_take hlt
  have c1 : ((numb (M.take i)).length + 1) * 8 ≤ 140737488355328 := by omega
  have c2 : (numb (M.take i)).length ≤ 9223372036854775806 := by omega
  cases hb : M[i] with
  | true =>
   rw [hb] at hn hs
   simp only [if_true] at hs
   repeat first|refine n1 ?_|refine n2 ?_|refine n3 ?_|refine n4 ?_|refine n5 ?_|refine n6 ?_|((first|refine rg 4 [0, 3, 4] [0, 3, 4] [] ?_|refine rg 5 [0, 3, 4] [0, 3, 4, 14] [] ?_|refine rg 6 [0, 3, 4] [0, 3, 4] [] ?_|refine nc ?_);simp (maxSteps := 1000000) [hF, hn, hlt, hw, c1, c2])
   refine nextK.of [0, 3, 4] [0] (m - 1) (by omega) (by simp [hF]) ?_
   refine ⟨i + 1, by omega, ?_⟩
   rw [hs]
   simp
  | false =>
   rw [hb] at hn hs
   simp only [Bool.false_eq_true, if_false, List.append_nil] at hs
   repeat first|refine n1 ?_|refine n2 ?_|refine n3 ?_|refine n4 ?_|refine n5 ?_|refine n6 ?_|((first|refine rg 4 [0, 3, 4] [0, 3, 4] [] ?_|refine rg 5 [0, 3, 4] [0, 3, 4, 14] [] ?_|refine nc ?_);simp (maxSteps := 1000000) [hF, hn, hlt, hw])
   refine nextK.of [0, 3, 4] [0] (m - 1) (by omega) (by simp [hF]) ?_
   refine ⟨i + 1, by omega, ?_⟩
   rw [hs]
   simp
 ·have hil : i = M.length := by omega
  subst hil
  rw [numb_all]
  repeat first|refine n1 ?_|refine n7 ?_|(refine rg 7 [3] [2] [] ?_;simp (maxSteps := 1000000) [hF])
  (try refine nr ?_);(repeat first|refine nb_ ?_|refine nl_ ?_);refine endK.o [2] [0] [] ?_;simp [hF, retK, covers, mpre]
theorem enumb_c (ex : Bool) (M : List Bool) (hl : M.length ≤ 1000000) : Meets Tryz.prog 72 [.sl true () 1 (dBools M)] (.cons (.sub 0 [] 0 M.length ex) .nil)
  fun av X κ => av = .sub 1 [] 0 (numb M).length false ∧ X = [.sl true () 1 (dBools M), .sl true () 1 (dInts (nats (numb M)))] ∧ κ = [] :=
 warmL (enumb_ok ex M hl) (by simp [AV.chilled]) rfl (by simp [T.allOwn]) rfl
theorem ewho_ok {n : Nat} (g : Gb) (b : Bk n g) (k : ByteArray) : Meets Tryz.prog 69 [] (.cons (avE g) (.cons (avStr k) .nil))
  fun av X κ => av = .sub 0 [] 0 g.units.length true ∧ X = [.sl true () 1 (dBools (aboveOf g.units (relyB g.units k)))] ∧ κ = [] := by
 have hul := b.len
 have b1 : (g.units.length : Int) ≤ 140737488355328 := by omega
 have b2 : (g.units.length : Int) ≤ 9223372036854775807 := by omega
 have hz : (sq (List.replicate g.units.length (.val (.bool false))) : D) = dBools (hasM g.units k 0) := by rw [hasM_zero]; exact zeros_bools _
 refine fb Tryz.func69 Tryz.ntmps69 [.tmp 4] fun w0 I0 F0 hF => ?_
 repeat first|refine n1 ?_|refine n3 ?_|((first|refine rg 0 [0, 1] [0, 1] [] ?_|refine rg 1 [0, 1] [0, 1, 5] [] ?_|refine rg 2 [0, 1, 5] [0, 1, 5, 6] [] ?_);simp (maxSteps := 1000000) [hF, eBb, b1, b2, hz])
 refine VS.rounds (fun m st => ∃ (i : Nat), i + m = g.units.length ∧ st = ⟨[(0, avE g), (1, avStr k), (5, .sub 0 [] 0 g.units.length true), (6, avInt i)], [.sl true () 1 (dBools (hasM g.units k i))], [], []⟩) ⟨g.units.length, 0, by omega, by simp [eBb]⟩ ?_
 rintro m st ⟨i, hi, rfl⟩
 repeat first|refine n1 ?_|((first|refine rg 3 [0, 1, 5, 6] [0, 1, 5, 6, 19] [] ?_|refine nc ?_);simp (maxSteps := 1000000) [hF, eBb])
 refine ⟨fun hlt => ?_, fun hge => ?_⟩
 ·have hn := dUns_nth (o := false) hlt
  have hkl := (b.asc _ (List.getElem_mem hlt)).2
  have hw : IntKind.i64.wrap ((i : Int) + 1) = (i + 1 : Nat) := by rw [IntWalk.i64_in _ (by omega)]; rfl
  have hii : (i : Int) < g.units.length := by omega
  have hML : (hasM g.units k i).length = g.units.length := hasM_len (by omega)
  have hiM : i < (hasM g.units k i).length := by omega
  have hbn := dBools_nth hiM
  have hset := dBools_set (hasM g.units k i) i (hasS g.units[i].keys k)
  rw [hasM_step hlt] at hset
  repeat first|refine n1 ?_|refine n2 ?_|refine n3 ?_|(refine rg 5 [0, 1, 5, 6] [0, 1, 5, 6] [] ?_;simp (maxSteps := 1000000) [hF, eBb, hn, hlt, hii])
  refine (ehas_ok false g.units[i].keys k (by omega)).go [] (by simp (maxSteps := 1000000) [hF, hbn, hiM, hML, hlt, hii, hset]) ?_;rintro av X κ ⟨rfl, rfl, rfl⟩;simp (maxSteps := 1000000) [hF, hbn, hiM, hML, hlt, hii, hset]
  repeat first|refine n4 ?_|refine n5 ?_|refine n6 ?_|(refine rg 4 [0, 1, 5, 6] [0, 1, 5, 6] [] ?_;simp (maxSteps := 1000000) [hF, hw])
  refine nextK.of [0, 1, 5, 6] [0] (m - 1) (by omega) (by simp [hF]) ?_
  exact ⟨i + 1, by omega, by simp [eBb, hset]⟩
 ·have hil : i = g.units.length := by omega
  subst hil
  repeat first|refine n1 ?_|refine n7 ?_|(refine rg 6 [0, 5] [4] [] ?_;simp (maxSteps := 1000000) [hF])
  refine (ecarried_ok g b (relyB g.units k) (hasM g.units k g.units.length) (Cm.begin (hasM_len (Nat.le_refl _)) (hasM_rely b k)) true).go [(0, [])] (by simp (maxSteps := 1000000) [hF]) ?_;rintro av X κ ⟨rfl, rfl, rfl⟩;simp (maxSteps := 1000000) [hF]
  (try refine nr ?_);(repeat first|refine nb_ ?_|refine nl_ ?_);refine endK.o [4] [0] [] ?_;simp [hF, retK, covers, mpre]
theorem ewho_c {n : Nat} (g : Gb) (b : Bk n g) (k : ByteArray) : Meets Tryz.prog 69 [eBk g] (.cons (.ptr 0 [.d]) (.cons (avStr k) .nil))
  fun av X κ => av = .sub 1 [] 0 g.units.length true ∧ X = [eBk g, .sl true () 1 (dBools (aboveOf g.units (relyB g.units k)))] ∧ κ = [] :=
 warmE (ewho_ok g b k) rfl rfl (by simp [T.allOwn]) rfl
theorem eWho_ok {n : Nat} (g : Gb) (b : Bk n g) (k : ByteArray) : Meets Tryz.prog 47 [] (.cons (avE g) (.cons (avStr k) .nil))
  fun av X κ => av = avTwo (.sub 0 [] 0 (whoQ g k).1.length false) (whoQ g k).2 ∧ X = [.sl true () 1 (dInts (nats (whoQ g k).1))] ∧ κ = [] := by
 have hul := b.len
 refine fb Tryz.func47 Tryz.ntmps47 [.tmp 4, .tmp 5] fun w0 I0 F0 hF => ?_
 repeat first|refine n1 ?_|((first|refine rg 0 [0, 1] [0, 1] [] ?_|refine rg 1 [0, 1] [0, 1, 6] [] ?_);simp (maxSteps := 1000000) [hF])
 cases hk : isKeyB k with
 | false =>
  have hq : whoQ g k = ([], 6) := by simp [whoQ, hk]
  refine (easked_ok g k).go [] (by simp (maxSteps := 1000000) [hF, hk]) ?_;rintro av X κ ⟨rfl, rfl, rfl⟩;simp (maxSteps := 1000000) [hF, hk]
  repeat first|refine n1 ?_|((first|refine rg 2 [0, 1, 6] [0, 1, 6, 11] [] ?_|refine rg 3 [6] [4, 5] [] ?_|refine nc ?_);simp (maxSteps := 1000000) [hF])
  refine VS.hold0 4 1 (by simp) ?_
  (try refine nr ?_);(repeat first|refine nb_ ?_|refine nl_ ?_);refine endK.o [4, 5] [0] [] ?_;simp [hF, retK, covers, mpre, hq]
 | true =>
  have hq : whoQ g k = (whoOf g k, 0) := by simp [whoQ, hk]
  have hw : numb (aboveOf g.units (relyB g.units k)) = whoOf g k := rfl
  have hnu := enumb_c true (aboveOf g.units (relyB g.units k)) (by simp; omega)
  rw [aboveOf_len, hw] at hnu
  refine (easked_ok g k).go [] (by simp (maxSteps := 1000000) [hF, hk]) ?_;rintro av X κ ⟨rfl, rfl, rfl⟩;simp (maxSteps := 1000000) [hF, hk]
  repeat first|refine n1 ?_|refine n2 ?_|((first|refine rg 2 [0, 1, 6] [0, 1, 6, 11] [] ?_|refine rg 4 [0, 1] [4, 5] [] ?_|refine nc ?_);simp (maxSteps := 1000000) [hF])
  refine (ewho_ok g b k).go [] (by simp (maxSteps := 1000000) [hF]) ?_;rintro av X κ ⟨rfl, rfl, rfl⟩;simp (maxSteps := 1000000) [hF]
  refine (hnu).go [(0, [])] (by simp (maxSteps := 1000000) [hF]) ?_;rintro av X κ ⟨rfl, rfl, rfl⟩;simp (maxSteps := 1000000) [hF]
  (try refine nr ?_);(repeat first|refine nb_ ?_|refine nl_ ?_);refine endK.o [4, 5] [1] [] ?_;simp [hF, retK, covers, mpre, hq]
theorem one_cm {n : Nat} {g : Gb} (i : Nat) (hi : i < g.units.length) : Cm g.units (fun x => x = i) ((List.replicate g.units.length false).set i true) := Cm.begin (by simp) (one_marks hi)
theorem eall_ok {n : Nat} (g : Gb) (b : Bk n g) (u : Int) : Meets Tryz.prog 43 [] (.cons (avE g) (.cons (avInt u) .nil))
  fun av X κ => av = avTwo (.sub 0 [] 0 (allQ g u).1.length false) (allQ g u).2 ∧ X = [.sl true () 1 (strs (allQ g u).1)] ∧ κ = [] := by
 have hul := b.len
 by_cases hh : hasB g u = true
 ·obtain ⟨v, hv, rfl, hu, _⟩ := unOf_mem hh
  have hq : allQ g v = (allKOf g v, 0) := by simp [allQ, hh]
  have hfin := keysUp_all g v
  refine fb Tryz.func43 Tryz.ntmps43 [.tmp 4, .tmp 5] fun w0 I0 F0 hF => ?_
  repeat first|refine n1 ?_|((first|refine rg 0 [0, 1] [0, 1] [] ?_|refine rg 1 [0, 1] [0, 1, 12] [] ?_);simp (maxSteps := 1000000) [hF])
  refine (ethere_ok g v).go [] (by simp (maxSteps := 1000000) [hF, hh]) ?_;rintro av X κ ⟨rfl, rfl, rfl⟩;simp (maxSteps := 1000000) [hF, hh]
  repeat first|refine n1 ?_|refine n2 ?_|refine n3 ?_|((first|refine rg 3 [0, 1] [0, 1, 6] [] ?_|refine rg 4 [0, 1, 6] [0, 1, 6, 7] [] ?_|refine nc ?_);simp (maxSteps := 1000000) [hF])
  refine VS.hold0 6 1 (by simp) ?_
  refine VS.pick [0, 1, 6, 7] [0] (by simp [hF]) ?_;simp [hF]
  refine VS.rounds (fun m st => ∃ (i : Nat), i + m = g.units.length ∧ st = ⟨[(0, avE g), (1, avInt v), (6, .sub 0 [] 0 (keysS (keysUp g v i)).length false), (7, avInt i)], [.sl true () 1 (strs (keysS (keysUp g v i)))], [], []⟩) ⟨g.units.length, 0, by omega, by simp [keysUp_zero, keysS]⟩ ?_
  rintro m st ⟨i, hi, rfl⟩
  repeat first|refine n1 ?_|((first|refine rg 5 [0, 1, 6, 7] [0, 1, 6, 7, 19] [] ?_|refine nc ?_);simp (maxSteps := 1000000) [hF, eBb])
  refine ⟨fun hlt => ?_, fun hge => ?_⟩
  ·have hn := dUns_nth (o := false) hlt
   have hii : (i : Int) < g.units.length := by omega
   have hw : IntKind.i64.wrap ((i : Int) + 1) = (i + 1 : Nat) := by rw [IntWalk.i64_in _ (by omega)]; rfl
   have hkl := (b.asc _ (List.getElem_mem hlt)).2
   cases hup : g.units[i].up with
   | false =>
    have hs : keysUp g v (i + 1) = keysUp g v i := keysUp_no hlt (by rw [hup]; rfl)
    repeat first|refine n1 ?_|refine n2 ?_|refine n3 ?_|refine n4 ?_|refine n6 ?_|refine n7 ?_|refine n8 ?_|((first|refine rg 6 [0, 1, 6, 7] [0, 1, 6, 7] [] ?_|refine rg 7 [0, 1, 6, 7] [0, 1, 6, 7, 41] [(9, 31)] ?_|refine nc ?_);simp (maxSteps := 1000000) [hF, eBb, hn, hlt, hii, hup, hw])
    refine nextK.of [0, 1, 6, 7] [0] (m - 1) (by omega) (by simp [hF]) ?_
    exact ⟨i + 1, by omega, by rw [hs]; simp⟩
   | true =>
    have hvl : v < (aboveOf g.units fun x => x = i).length := by simpa using hv
    have hbn := dBools_nth hvl
    rw [aboveOf_at hv] at hbn
    have hvi : (v : Int) < g.units.length := by omega
    repeat first|refine n1 ?_|refine n2 ?_|refine n3 ?_|(refine rg 7 [0, 1, 6, 7] [0, 1, 6, 7, 41] [(9, 31)] ?_;simp (maxSteps := 1000000) [hF, eBb, hn, hlt, hii, hup])
    refine (eone_ok g b i hlt).go [] (by simp (maxSteps := 1000000) [hF, hup, eBb]) ?_;rintro av X κ ⟨rfl, rfl, rfl⟩;simp (maxSteps := 1000000) [hF, hup, eBb]
    refine (ecarried_ok g b (fun x => x = i) _ (one_cm (n := n) i hlt) true).go [(1, [])] (by simp (maxSteps := 1000000) [hF, hbn, hv, hvi, eBb]) ?_;rintro av X κ ⟨rfl, rfl, rfl⟩;simp (maxSteps := 1000000) [hF, hbn, hv, hvi, eBb]
    cases hr : rcB g.units (fun x => x = i) v with
    | false =>
     have hs : keysUp g v (i + 1) = keysUp g v i := keysUp_no hlt (by rw [hup, hr]; rfl)
     repeat first|refine n4 ?_|refine n6 ?_|refine n7 ?_|refine n8 ?_|((first|refine rg 6 [0, 1, 6, 7] [0, 1, 6, 7] [] ?_|refine nc ?_);simp (maxSteps := 1000000) [hF, hr, hw])
     refine nextK.of [0, 1, 6, 7] [0] (m - 1) (by omega) (by simp [hF]) ?_
     exact ⟨i + 1, by omega, by rw [hs]; simp⟩
    | true =>
     have hs : keysUp g v (i + 1) = keysUp g v i ++ g.units[i].keys := keysUp_yes hlt hup hr
     have hkul := keysUp_len b v i (by omega)
     repeat first|refine n1 ?_|refine n2 ?_|refine n3 ?_|((first|refine rg 8 [0, 1, 6, 7] [0, 1, 6, 7, 8] [] ?_|refine nc ?_);simp (maxSteps := 1000000) [hF, hr])
     refine VS.pick [0, 1, 6, 7, 8] [0] (by simp [hF]) ?_;simp [hF]
     refine VS.rounds (fun m2 st => ∃ (j : Nat), j + m2 = g.units[i].keys.length ∧ st = ⟨[(0, avE g), (1, avInt v), (6, .sub 0 [] 0 (keysS (keysUp g v i ++ g.units[i].keys.take j)).length false), (7, avInt i), (8, avInt j)], [.sl true () 1 (strs (keysS (keysUp g v i ++ g.units[i].keys.take j)))], [], []⟩) ⟨g.units[i].keys.length, 0, by omega, by simp⟩ ?_
     rintro m2 st ⟨j, hj, rfl⟩
     have hkl2 := keysS_len (keysUp g v i ++ g.units[i].keys.take j)
     rw [List.length_append, List.length_take] at hkl2
     repeat first|refine n1 ?_|((first|refine rg 9 [0, 1, 6, 7, 8] [0, 1, 6, 7, 8, 52] [] ?_|refine nc ?_);simp (maxSteps := 1000000) [hF, eBb, hn, hlt, hii])
     refine ⟨fun hjl => ?_, fun hjge => ?_⟩
     ·have hsn := strs_nth hjl
      have hw2 : IntKind.i64.wrap ((j : Int) + 1) = (j + 1 : Nat) := by rw [IntWalk.i64_in _ (by omega)]; rfl
      have hst : keysS (keysUp g v i ++ g.units[i].keys.take (j + 1)) = insS g.units[i].keys[j] (keysS (keysUp g v i ++ g.units[i].keys.take j)) := by
       rw [take_succ_at hjl, ← List.append_assoc, keysS_snoc]
      have hjj : (j : Int) < g.units[i].keys.length := by omega
      have hAs := keysS_asc (keysUp g v i ++ g.units[i].keys.take j)
      generalize keysS (keysUp g v i ++ g.units[i].keys.take j) = ks at *
      repeat first|refine n1 ?_|refine n2 ?_|refine n3 ?_|(refine rg 11 [0, 1, 6, 7, 8] [0, 1, 6, 7, 8] [] ?_;simp (maxSteps := 1000000) [hF, eBb, hn, hlt, hii, hsn, hjl, hjj])
      cases hc : hasS ks g.units[i].keys[j] with
      | true =>
       rw [insS_has hAs hc] at hst
       refine (with_has false ks g.units[i].keys[j] (by omega) hc).go [(0, [])] (by simp (maxSteps := 1000000) [hF]) ?_;rintro av X κ ⟨rfl, rfl, rfl⟩;simp (maxSteps := 1000000) [hF]
       repeat first|refine n4 ?_|refine n5 ?_|refine n6 ?_|(refine rg 10 [0, 1, 6, 7, 8] [0, 1, 6, 7, 8] [] ?_;simp (maxSteps := 1000000) [hF, hw2])
       refine nextK.of [0, 1, 6, 7, 8] [0] (m2 - 1) (by omega) (by simp [hF]) ?_
       exact ⟨j + 1, by omega, by rw [hst]; simp⟩
      | false =>
       refine (with_not false ks g.units[i].keys[j] (by omega) hc).go [(0, [])] (by simp (maxSteps := 1000000) [hF]) ?_;rintro av X κ ⟨rfl, rfl, rfl⟩;simp (maxSteps := 1000000) [hF]
       repeat first|refine n4 ?_|refine n5 ?_|refine n6 ?_|(refine rg 10 [0, 1, 6, 7, 8] [0, 1, 6, 7, 8] [] ?_;simp (maxSteps := 1000000) [hF, hw2])
       refine nextK.of [0, 1, 6, 7, 8] [1] (m2 - 1) (by omega) (by simp [hF]) ?_
       exact ⟨j + 1, by omega, by rw [hst]; simp⟩
     ·have hjl : j = g.units[i].keys.length := by omega
      subst hjl
      rw [List.take_length, ← hs]
      repeat first|refine n4 ?_|refine n5 ?_|refine n6 ?_|refine n7 ?_|(refine rg 6 [0, 1, 6, 7] [0, 1, 6, 7] [] ?_;simp (maxSteps := 1000000) [hF, hw])
      refine nextK.of [0, 1, 6, 7] [0] (m - 1) (by omega) (by simp [hF]) ?_
      exact ⟨i + 1, by omega, by simp⟩
  ·have hil : i = g.units.length := by omega
   subst hil
   rw [hfin]
   repeat first|refine n1 ?_|refine n7 ?_|(refine rg 12 [6] [4, 5] [] ?_;simp (maxSteps := 1000000) [hF])
   (try refine nr ?_);(repeat first|refine nb_ ?_|refine nl_ ?_);refine endK.o [4, 5] [0] [] ?_;simp [hF, retK, covers, mpre, hq]
 ·have hh : hasB g u = false := by simpa using hh
  have hq : allQ g u = ([], 1) := by simp [allQ, hh]
  refine fb Tryz.func43 Tryz.ntmps43 [.tmp 4, .tmp 5] fun w0 I0 F0 hF => ?_
  repeat first|refine n1 ?_|((first|refine rg 0 [0, 1] [0, 1] [] ?_|refine rg 1 [0, 1] [0, 1, 12] [] ?_);simp (maxSteps := 1000000) [hF])
  refine (ethere_ok g u).go [] (by simp (maxSteps := 1000000) [hF, hh]) ?_;rintro av X κ ⟨rfl, rfl, rfl⟩;simp (maxSteps := 1000000) [hF, hh]
  repeat first|refine n1 ?_|((first|refine rg 2 [] [4, 5] [] ?_|refine nc ?_);simp (maxSteps := 1000000) [hF])
  refine VS.hold0 4 1 (by simp) ?_
  (try refine nr ?_);(repeat first|refine nb_ ?_|refine nl_ ?_);refine endK.o [4, 5] [0] [] ?_;simp [hF, retK, covers, mpre, hq]
theorem enew_ok : Meets Tryz.prog 12 [] .nil fun av X κ => av = .ptr 0 [.d] ∧ X = [eBk bornB] ∧ κ = [] := by
 have h1 : movedOf bornB = [] := rfl
 have h2 : serials bornB = [] := rfl
 have h3 : bornB.units = [] := rfl
 refine fb Tryz.func12 Tryz.ntmps12 [.tmp 0] fun w0 I0 F0 hF => ?_
 repeat first|refine n1 ?_|((first|refine rg 0 [] [] [] ?_|refine rg 1 [] [0] [] ?_);simp (maxSteps := 1000000) [hF])
 (try refine nr ?_);(repeat first|refine nb_ ?_|refine nl_ ?_);refine endK.o [0] [0] [] ?_;simp [hF, retK, covers, mpre, eBk, eBb, h1, h2, h3]
theorem eunit_c {n : Nat} (g : Gb) (b : Bk n g) (ex : Bool) (l : List ByteArray) (hl : l.length ≤ 100000) : Meets Tryz.prog 29 [eBk g] (.cons (.ptr 0 [.d]) (.cons (.imm 1 (strs l) ex) .nil))
  fun av X κ => av = two (unitOf g l).2 ∧ X = [eBk (unitOf g l).1] ∧ κ = [(0, [.d])] := by
 have hul := b.len
 rcases keysE_cases l with he | he | he
 ·have hc : unitOf g l = (g, 0, 6) := by simp [unitOf, he]
  refine fb Tryz.func29 Tryz.ntmps29 [.tmp 4, .tmp 5] fun w0 I0 F0 hF => ?_
  repeat first|refine n1 ?_|refine n2 ?_|((first|refine rg 0 [0, 1] [0, 1] [] ?_|refine rg 1 [0, 1] [0, 1, 16] [(2, 10)] ?_|refine rg 3 [0, 1] [0, 6, 7] [] ?_|refine nc ?_);simp (maxSteps := 1000000) [hF, eBk, eBb])
  refine (ekeys_6 ex l hl he).go [] (by simp (maxSteps := 1000000) [hF]) ?_;rintro av X κ ⟨rfl, rfl, rfl⟩;simp (maxSteps := 1000000) [hF]
  repeat first|refine n1 ?_|((first|refine rg 4 [0, 6, 7] [0, 6, 7, 23] [] ?_|refine rg 5 [7] [4, 5] [] ?_|refine nc ?_);simp (maxSteps := 1000000) [hF])
  refine VS.widen [(0, [.d])] (by simp [covers, mpre]) ?_
  (try refine nr ?_);(repeat first|refine nb_ ?_|refine nl_ ?_);refine endK.o [4, 5] [0] [(0, [.d])] ?_;simp [hF, retK, covers, mpre, eBk, eBb, hc]
 ·have hc : unitOf g l = (g, 0, 9) := by simp [unitOf, he]
  refine fb Tryz.func29 Tryz.ntmps29 [.tmp 4, .tmp 5] fun w0 I0 F0 hF => ?_
  repeat first|refine n1 ?_|refine n2 ?_|((first|refine rg 0 [0, 1] [0, 1] [] ?_|refine rg 1 [0, 1] [0, 1, 16] [(2, 10)] ?_|refine rg 3 [0, 1] [0, 6, 7] [] ?_|refine nc ?_);simp (maxSteps := 1000000) [hF, eBk, eBb])
  refine (ekeys_9 ex l hl he).go [] (by simp (maxSteps := 1000000) [hF]) ?_;rintro av X κ ⟨rfl, rfl, rfl⟩;simp (maxSteps := 1000000) [hF]
  repeat first|refine n1 ?_|((first|refine rg 4 [0, 6, 7] [0, 6, 7, 23] [] ?_|refine rg 5 [7] [4, 5] [] ?_|refine nc ?_);simp (maxSteps := 1000000) [hF])
  refine VS.widen [(0, [.d])] (by simp [covers, mpre]) ?_
  (try refine nr ?_);(repeat first|refine nb_ ?_|refine nl_ ?_);refine endK.o [4, 5] [0] [(0, [.d])] ?_;simp [hF, retK, covers, mpre, eBk, eBb, hc]
 ·by_cases hf : 200 ≤ g.units.length
  ·have hc : unitOf g l = (g, 0, 9) := by simp [unitOf, he, hf]
   have hfi : (200 : Int) ≤ g.units.length := by omega
   refine fb Tryz.func29 Tryz.ntmps29 [.tmp 4, .tmp 5] fun w0 I0 F0 hF => ?_
   repeat first|refine n1 ?_|refine n2 ?_|((first|refine rg 0 [0, 1] [0, 1] [] ?_|refine rg 1 [0, 1] [0, 1, 16] [(2, 10)] ?_|refine rg 3 [0, 1] [0, 6, 7] [] ?_|refine nc ?_);simp (maxSteps := 1000000) [hF, eBk, eBb])
   refine (ekeys_0 ex l hl he).go [] (by simp (maxSteps := 1000000) [hF]) ?_;rintro av X κ ⟨rfl, rfl, rfl⟩;simp (maxSteps := 1000000) [hF]
   repeat first|refine n1 ?_|refine n2 ?_|((first|refine rg 4 [0, 6, 7] [0, 6, 7, 23] [] ?_|refine rg 6 [0, 6] [0, 6, 30] [] ?_|refine rg 7 [] [4, 5] [] ?_|refine nc ?_);simp (maxSteps := 1000000) [hF, eBk, eBb, hf, hfi])
   refine VS.widen [(0, [.d])] (by simp [covers, mpre]) ?_
   (try refine nr ?_);(repeat first|refine nb_ ?_|refine nl_ ?_);refine endK.o [4, 5] [0] [(0, [.d])] ?_;simp [hF, retK, covers, mpre, eBk, eBb, hc]
  ·have hc : unitOf g l = ({ g with units := g.units ++ [⟨true, keysS l, []⟩] }, (g.units.length : Int), 0) := by simp [unitOf, he, hf]
   have hfi : ¬ (200 : Int) ≤ g.units.length := by omega
   have c1 : (g.units.length + 1) * 56 ≤ 140737488355328 := by omega
   have c2 : g.units.length ≤ 9223372036854775806 := by omega
   have hp : (dUns true g.units).app (.cons (.agg (.cons (.val (.bool true)) (.cons (.sl true () 1 (strs (keysS l))) (.cons (.sl true () 1 .nil) .nil)))) .nil) = dUns true (g.units ++ [⟨true, keysS l, []⟩]) := dUns_push true g.units true (keysS l) []
   have hm1 := dUns_mid1 true g.units ⟨true, keysS l, []⟩
   have hw : IntKind.i64.wrap (g.units.length : Int) = (g.units.length : Int) := IntWalk.i64_in _ (by omega)
   have e1 : movedOf { g with units := g.units ++ [⟨true, keysS l, []⟩] } = movedOf g := rfl
   have e2 : serials { g with units := g.units ++ [⟨true, keysS l, []⟩] } = serials g := rfl
   refine fb Tryz.func29 Tryz.ntmps29 [.tmp 4, .tmp 5] fun w0 I0 F0 hF => ?_
   repeat first|refine n1 ?_|refine n2 ?_|((first|refine rg 0 [0, 1] [0, 1] [] ?_|refine rg 1 [0, 1] [0, 1, 16] [(2, 10)] ?_|refine rg 3 [0, 1] [0, 6, 7] [] ?_|refine nc ?_);simp (maxSteps := 1000000) [hF, eBk, eBb])
   refine (ekeys_0 ex l hl he).go [] (by simp (maxSteps := 1000000) [hF]) ?_;rintro av X κ ⟨rfl, rfl, rfl⟩;simp (maxSteps := 1000000) [hF]
   repeat first|refine n1 ?_|refine n2 ?_|((first|refine rg 4 [0, 6, 7] [0, 6, 7, 23] [] ?_|refine rg 6 [0, 6] [0, 6, 30] [] ?_|refine nc ?_);simp (maxSteps := 1000000) [hF, eBk, eBb, hf, hfi])
   refine ghostL 0 [.d, .f 1] ?_;simp (maxSteps := 1000000) [hF, St.lift, AV.lift, liftPl, stripP, nodeAV, isNode, eBk, eBb]
   repeat first|refine n1 ?_|((first|refine rg 8 [0, 6] [0] [] ?_|refine rg 9 [0] [4, 5] [] ?_);simp (maxSteps := 1000000) [hF, hp, hm1, c1, c2, hw])
   refine VS.widen [(0, [.d])] (by simp [covers, mpre]) ?_
   (try refine nr ?_);(repeat first|refine nb_ ?_|refine nl_ ?_);refine endK.o [4, 5] [0] [(0, [.d])] ?_;simp [hF, retK, covers, mpre, eBk, eBb, hc, e1, e2]
theorem erely_c {n : Nat} (g : Gb) (b : Bk n g) (u : Int) (k : ByteArray) : Meets Tryz.prog 31 [eBk g] (.cons (.ptr 0 [.d]) (.cons (avInt u) (.cons (avStr k) .nil)))
  fun av X κ => av = avInt (relyOf g u k).2 ∧ X = [eBk (relyOf g u k).1] ∧ κ = [(0, [.d])] := by
 cases hh : hasB g u with
 | false =>
  have hc : relyOf g u k = (g, 1) := by simp [relyOf, hh]
  refine fb Tryz.func31 Tryz.ntmps31 [.tmp 6] fun w0 I0 F0 hF => ?_
  repeat first|refine n1 ?_|((first|refine rg 0 [0, 1, 2] [0, 1, 2] [] ?_|refine rg 1 [0, 1, 2] [0, 1, 2, 11] [] ?_);simp (maxSteps := 1000000) [hF])
  refine (ethere_c g u).go [(0, [])] (by simp (maxSteps := 1000000) [hF, eBk, hh]) ?_;rintro av X κ ⟨rfl, rfl, rfl⟩;simp (maxSteps := 1000000) [hF, eBk, hh]
  repeat first|refine n1 ?_|((first|refine rg 2 [] [6] [] ?_|refine nc ?_);simp (maxSteps := 1000000) [hF])
  refine VS.widen [(0, [.d])] (by simp [covers, mpre]) ?_
  (try refine nr ?_);(repeat first|refine nb_ ?_|refine nl_ ?_);refine endK.o [6] [0] [(0, [.d])] ?_;simp [hF, retK, covers, mpre, eBk, hc]
 | true =>
  obtain ⟨i, hi, rfl, hu, _⟩ := unOf_mem hh
  have hn := dUns_nth (o := true) hi
  have hii : (i : Int) < g.units.length := by omega
  have ha := b.asc _ (List.getElem_mem hi)
  cases hk : isKeyB k with
  | false =>
   have hc : relyOf g i k = (g, 6) := by simp [relyOf, hh, hk]
   refine fb Tryz.func31 Tryz.ntmps31 [.tmp 6] fun w0 I0 F0 hF => ?_
   repeat first|refine n1 ?_|((first|refine rg 0 [0, 1, 2] [0, 1, 2] [] ?_|refine rg 1 [0, 1, 2] [0, 1, 2, 11] [] ?_);simp (maxSteps := 1000000) [hF])
   refine (ethere_c g i).go [(0, [])] (by simp (maxSteps := 1000000) [hF, eBk, hh]) ?_;rintro av X κ ⟨rfl, rfl, rfl⟩;simp (maxSteps := 1000000) [hF, eBk, hh]
   repeat first|refine n1 ?_|refine n2 ?_|((first|refine rg 3 [0, 1, 2] [0, 1, 2, 14] [] ?_|refine nc ?_);simp (maxSteps := 1000000) [hF])
   refine (eisKey_ok k).go [] (by simp (maxSteps := 1000000) [hF, hk]) ?_;rintro av X κ ⟨rfl, rfl, rfl⟩;simp (maxSteps := 1000000) [hF, hk]
   repeat first|refine n1 ?_|((first|refine rg 4 [] [6] [] ?_|refine nc ?_);simp (maxSteps := 1000000) [hF])
   refine VS.widen [(0, [.d])] (by simp [covers, mpre]) ?_
   (try refine nr ?_);(repeat first|refine nb_ ?_|refine nl_ ?_);refine endK.o [6] [0] [(0, [.d])] ?_;simp [hF, retK, covers, mpre, eBk, hc]
  | true =>
   cases hup : g.units[i].up with
   | false =>
    have hc : relyOf g i k = (g, 8) := by simp [relyOf, hh, hk, hu, hup]
    refine fb Tryz.func31 Tryz.ntmps31 [.tmp 6] fun w0 I0 F0 hF => ?_
    repeat first|refine n1 ?_|((first|refine rg 0 [0, 1, 2] [0, 1, 2] [] ?_|refine rg 1 [0, 1, 2] [0, 1, 2, 11] [] ?_);simp (maxSteps := 1000000) [hF])
    refine (ethere_c g i).go [(0, [])] (by simp (maxSteps := 1000000) [hF, eBk, hh]) ?_;rintro av X κ ⟨rfl, rfl, rfl⟩;simp (maxSteps := 1000000) [hF, eBk, hh]
    repeat first|refine n1 ?_|refine n2 ?_|((first|refine rg 3 [0, 1, 2] [0, 1, 2, 14] [] ?_|refine nc ?_);simp (maxSteps := 1000000) [hF])
    refine (eisKey_ok k).go [] (by simp (maxSteps := 1000000) [hF, hk]) ?_;rintro av X κ ⟨rfl, rfl, rfl⟩;simp (maxSteps := 1000000) [hF, hk]
    repeat first|refine n1 ?_|refine n2 ?_|((first|refine rg 5 [0, 1, 2] [0, 1, 2, 7] [] ?_|refine rg 6 [0, 1, 2, 7] [0, 1, 2, 7, 24] [] ?_|refine rg 7 [] [6] [] ?_|refine nc ?_);simp (maxSteps := 1000000) [hF, eBk, eBb, hn, hi, hii, hup])
    refine VS.widen [(0, [.d])] (by simp [covers, mpre]) ?_
    (try refine nr ?_);(repeat first|refine nb_ ?_|refine nl_ ?_);refine endK.o [6] [0] [(0, [.d])] ?_;simp [hF, retK, covers, mpre, eBk, eBb, hc]
   | true =>
    have hsm := dUns_same (o := true) hi hup
    cases hs : hasS g.units[i].keys k with
    | true =>
     have hc : relyOf g i k = (g, 0) := by simp [relyOf, hh, hk, hu, hup, hs]
     have hns := T.nth_setN_same (s := dUns true g.units) (k := i) (.agg (.cons (.val (.bool true)) (.cons (.junk ()) (.cons (.sl true () 1 (dInts (nats g.units[i].inn))) .nil)))) (by simpa using hi)
     have hss : ∀ x y : D, ((dUns true g.units).setN i x).setN i y = (dUns true g.units).setN i y := fun x y => setN_setN
     refine fb Tryz.func31 Tryz.ntmps31 [.tmp 6] fun w0 I0 F0 hF => ?_
     repeat first|refine n1 ?_|((first|refine rg 0 [0, 1, 2] [0, 1, 2] [] ?_|refine rg 1 [0, 1, 2] [0, 1, 2, 11] [] ?_);simp (maxSteps := 1000000) [hF])
     refine (ethere_c g i).go [(0, [])] (by simp (maxSteps := 1000000) [hF, eBk, hh]) ?_;rintro av X κ ⟨rfl, rfl, rfl⟩;simp (maxSteps := 1000000) [hF, eBk, hh]
     repeat first|refine n1 ?_|refine n2 ?_|((first|refine rg 3 [0, 1, 2] [0, 1, 2, 14] [] ?_|refine nc ?_);simp (maxSteps := 1000000) [hF])
     refine (eisKey_ok k).go [] (by simp (maxSteps := 1000000) [hF, hk]) ?_;rintro av X κ ⟨rfl, rfl, rfl⟩;simp (maxSteps := 1000000) [hF, hk]
     repeat first|refine n1 ?_|refine n2 ?_|((first|refine rg 5 [0, 1, 2] [0, 1, 2, 7] [] ?_|refine rg 6 [0, 1, 2, 7] [0, 1, 2, 7, 24] [] ?_|refine rg 8 [0, 1, 2, 7] [0, 1, 2, 7, 35] [(5, 30)] ?_|refine nc ?_);simp (maxSteps := 1000000) [hF, eBk, eBb, hn, hi, hii, hup])
     refine (ehas_c false g.units[i].keys k (by omega)).go [(0, [.d, .f 1, .i i, .f 1])] (by simp (maxSteps := 1000000) [hF, eBk, eBb, hn, hi, hii, hup, hsm, hs]) ?_;rintro av X κ ⟨rfl, rfl, rfl⟩;simp (maxSteps := 1000000) [hF, eBk, eBb, hn, hi, hii, hup, hsm, hs]
     repeat first|refine n1 ?_|refine n2 ?_|(refine nc ?_;simp (maxSteps := 1000000) [hF, hs])
     refine ghostL 0 [.d, .f 1, .i i, .f 1] ?_;simp (maxSteps := 1000000) [hF, St.lift, AV.lift, liftPl, stripP, nodeAV, isNode, eBk, eBb, hn, hi, hii, hup, hsm]
     repeat first|((refine dr 10 0 [0, 1, 2, 7] [] [] [⟨0, 1, 68719476736, 5⟩, ⟨1, 68719476736, 137438953472, 5⟩, ⟨2, 137438953472, 274877906944, 5⟩, ⟨4, 274877906944, 549755813888, 6⟩, ⟨0, 2, 1099511627776, 5⟩, ⟨0, 128, 2199023255552, 5⟩, ⟨32, 2199023255552, 4398046511104, 6⟩, ⟨0, 4, 8796093022208, 5⟩, ⟨192, 13194139533312, 17592186044416, 0⟩, ⟨511, 1649267441664, 35184372088832, 5⟩, ⟨1023, 35184372088832, 70368744177664, 5⟩, ⟨1535, 87960930222080, 0, 0⟩] (.take 0 (.take 1 (.take 2 (.take 4 (.take 5 (.take 6 (.take 7 (.fork (.alt 3 (.fork (.alt 8 (.take 9 (.take 10 (.fork (.alt 11 (.done) (.nil))))) (.nil))) (.alt 8 (.take 3 (.take 9 (.take 10 (.fork (.alt 11 (.done) (.nil)))))) (.nil))))))))))) (.run [0, 1, 2, 4, 5, 6, 7] (.both (.run [3, 8, 9, 10, 11] (.done)) (.run [8, 3, 9, 10, 11] (.done)))) ?_;simp only [drs]);simp (maxSteps := 1000000) [hF])
     (repeat' with_reducible refine And.intro ?_ ?_)
     all_goals (refine (with_has false g.units[i].keys k (by omega) hs).go [(2, [])] (by simp (maxSteps := 1000000) [hF, eBk, eBb, hn, hi, hii, hup, hsm, hns, hss]) ?_;rintro av X κ ⟨rfl, rfl, rfl⟩;simp (maxSteps := 1000000) [hF, eBk, eBb, hn, hi, hii, hup, hsm, hns, hss])
     all_goals (repeat first|refine n1 ?_|(refine rg 11 [] [6] [] ?_;simp (maxSteps := 1000000) [hF]))
     all_goals (refine VS.widen [(0, [.d])] (by simp [covers, mpre]) ?_)
     all_goals ((try refine nr ?_);(repeat first|refine nb_ ?_|refine nl_ ?_);refine endK.o [6] [0] [(0, [.d])] ?_;simp [hF, retK, covers, mpre, eBk, eBb, hc, hsm])
    | false =>
     have hkm : ¬ k ∈ g.units[i].keys := hasS_no hs
     by_cases hf : 30 ≤ g.units[i].keys.length
     ·have hc : relyOf g i k = (g, 9) := by simp [relyOf, hh, hk, hu, hup, hs, hf]
      have hfi : (30 : Int) ≤ g.units[i].keys.length := by omega
      refine fb Tryz.func31 Tryz.ntmps31 [.tmp 6] fun w0 I0 F0 hF => ?_
      repeat first|refine n1 ?_|((first|refine rg 0 [0, 1, 2] [0, 1, 2] [] ?_|refine rg 1 [0, 1, 2] [0, 1, 2, 11] [] ?_);simp (maxSteps := 1000000) [hF])
      refine (ethere_c g i).go [(0, [])] (by simp (maxSteps := 1000000) [hF, eBk, hh]) ?_;rintro av X κ ⟨rfl, rfl, rfl⟩;simp (maxSteps := 1000000) [hF, eBk, hh]
      repeat first|refine n1 ?_|refine n2 ?_|((first|refine rg 3 [0, 1, 2] [0, 1, 2, 14] [] ?_|refine nc ?_);simp (maxSteps := 1000000) [hF])
      refine (eisKey_ok k).go [] (by simp (maxSteps := 1000000) [hF, hk]) ?_;rintro av X κ ⟨rfl, rfl, rfl⟩;simp (maxSteps := 1000000) [hF, hk]
      repeat first|refine n1 ?_|refine n2 ?_|((first|refine rg 5 [0, 1, 2] [0, 1, 2, 7] [] ?_|refine rg 6 [0, 1, 2, 7] [0, 1, 2, 7, 24] [] ?_|refine rg 8 [0, 1, 2, 7] [0, 1, 2, 7, 35] [(5, 30)] ?_|refine nc ?_);simp (maxSteps := 1000000) [hF, eBk, eBb, hn, hi, hii, hup])
      refine (ehas_c false g.units[i].keys k (by omega)).go [(0, [.d, .f 1, .i i, .f 1])] (by simp (maxSteps := 1000000) [hF, eBk, eBb, hn, hi, hii, hup, hsm, hs, hfi, hf]) ?_;rintro av X κ ⟨rfl, rfl, rfl⟩;simp (maxSteps := 1000000) [hF, eBk, eBb, hn, hi, hii, hup, hsm, hs, hfi, hf]
      repeat first|refine n1 ?_|((first|refine rg 9 [] [6] [] ?_|refine nc ?_);simp (maxSteps := 1000000) [hF, hs, hn, hi, hfi, hf])
      refine VS.widen [(0, [.d])] (by simp [covers, mpre]) ?_
      (try refine nr ?_);(repeat first|refine nb_ ?_|refine nl_ ?_);refine endK.o [6] [0] [(0, [.d])] ?_;simp [hF, retK, covers, mpre, eBk, eBb, hc, hsm]
     ·have hc : relyOf g i k = (setU g i { up := true, keys := insS k g.units[i].keys, inn := g.units[i].inn }, 0) := by simp [relyOf, hh, hk, hu, hup, hs, hf]
      have hfi : ¬ (30 : Int) ≤ g.units[i].keys.length := by omega
      have hset := dUns_set true g.units i true (insS k g.units[i].keys) g.units[i].inn
      have e1 : movedOf { g with units := g.units.set i ⟨true, insS k g.units[i].keys, g.units[i].inn⟩ } = movedOf g := rfl
      have e2 : serials { g with units := g.units.set i ⟨true, insS k g.units[i].keys, g.units[i].inn⟩ } = serials g := rfl
      refine fb Tryz.func31 Tryz.ntmps31 [.tmp 6] fun w0 I0 F0 hF => ?_
      repeat first|refine n1 ?_|((first|refine rg 0 [0, 1, 2] [0, 1, 2] [] ?_|refine rg 1 [0, 1, 2] [0, 1, 2, 11] [] ?_);simp (maxSteps := 1000000) [hF])
      refine (ethere_c g i).go [(0, [])] (by simp (maxSteps := 1000000) [hF, eBk, hh]) ?_;rintro av X κ ⟨rfl, rfl, rfl⟩;simp (maxSteps := 1000000) [hF, eBk, hh]
      repeat first|refine n1 ?_|refine n2 ?_|((first|refine rg 3 [0, 1, 2] [0, 1, 2, 14] [] ?_|refine nc ?_);simp (maxSteps := 1000000) [hF])
      refine (eisKey_ok k).go [] (by simp (maxSteps := 1000000) [hF, hk]) ?_;rintro av X κ ⟨rfl, rfl, rfl⟩;simp (maxSteps := 1000000) [hF, hk]
      repeat first|refine n1 ?_|refine n2 ?_|((first|refine rg 5 [0, 1, 2] [0, 1, 2, 7] [] ?_|refine rg 6 [0, 1, 2, 7] [0, 1, 2, 7, 24] [] ?_|refine rg 8 [0, 1, 2, 7] [0, 1, 2, 7, 35] [(5, 30)] ?_|refine nc ?_);simp (maxSteps := 1000000) [hF, eBk, eBb, hn, hi, hii, hup])
      refine (ehas_c false g.units[i].keys k (by omega)).go [(0, [.d, .f 1, .i i, .f 1])] (by simp (maxSteps := 1000000) [hF, eBk, eBb, hn, hi, hii, hup, hsm, hs, hfi, hf]) ?_;rintro av X κ ⟨rfl, rfl, rfl⟩;simp (maxSteps := 1000000) [hF, eBk, eBb, hn, hi, hii, hup, hsm, hs, hfi, hf]
      repeat first|refine n1 ?_|refine n2 ?_|(refine nc ?_;simp (maxSteps := 1000000) [hF, hs, hn, hi, hfi, hf])
      repeat first|((refine dr 10 0 [0, 1, 2, 7] [] [] [⟨0, 1, 68719476736, 5⟩, ⟨1, 68719476736, 137438953472, 5⟩, ⟨2, 137438953472, 274877906944, 5⟩, ⟨4, 274877906944, 549755813888, 6⟩, ⟨0, 2, 1099511627776, 5⟩, ⟨0, 128, 2199023255552, 5⟩, ⟨32, 2199023255552, 4398046511104, 6⟩, ⟨0, 4, 8796093022208, 5⟩, ⟨192, 13194139533312, 17592186044416, 0⟩, ⟨511, 1649267441664, 35184372088832, 5⟩, ⟨1023, 35184372088832, 70368744177664, 5⟩, ⟨1535, 87960930222080, 0, 0⟩] (.take 0 (.take 1 (.take 2 (.take 4 (.take 5 (.take 6 (.take 7 (.fork (.alt 3 (.fork (.alt 8 (.take 9 (.take 10 (.fork (.alt 11 (.done) (.nil))))) (.nil))) (.alt 8 (.take 3 (.take 9 (.take 10 (.fork (.alt 11 (.done) (.nil)))))) (.nil))))))))))) (.run [0, 1, 2, 4, 5, 6, 7] (.both (.run [3, 8, 9, 10, 11] (.done)) (.run [8, 3, 9, 10, 11] (.done)))) ?_;simp only [drs]);simp (maxSteps := 1000000) [hF, eBk, eBb, hn, hi, hii, hup, hsm])
      (repeat' with_reducible refine And.intro ?_ ?_)
      all_goals (refine (with_not false g.units[i].keys k (by omega) hs).go [(0, [.d, .f 1, .i i, .f 1])] (by simp (maxSteps := 1000000) [hF, eBk, eBb, hn, hi, hii, hup, hsm, hset]) ?_;rintro av X κ ⟨rfl, rfl, rfl⟩;simp (maxSteps := 1000000) [hF, eBk, eBb, hn, hi, hii, hup, hsm, hset])
      all_goals (repeat first|refine n1 ?_|(refine rg 11 [] [6] [] ?_;simp (maxSteps := 1000000) [hF]))
      all_goals (refine VS.widen [(0, [.d])] (by simp [covers, mpre]) ?_)
      all_goals ((try refine nr ?_);(repeat first|refine nb_ ?_|refine nl_ ?_);refine endK.o [6] [0] [(0, [.d])] ?_;simp [hF, retK, covers, mpre, eBk, eBb, hc, setU, hset, e1, e2])
theorem eone_c {n : Nat} (g : Gb) (b : Bk n g) (i : Nat) (hi : i < g.units.length) : Meets Tryz.prog 66 [eBk g] (.cons (.ptr 0 [.d]) (.cons (avInt i) .nil))
  fun av X κ => av = .sub 1 [] 0 g.units.length true ∧ X = [eBk g, .sl true () 1 (dBools ((List.replicate g.units.length false).set i true))] ∧ κ = [] :=
 warmE (eone_ok g b i hi) rfl rfl (by simp [T.allOwn]) rfl
theorem ecarried_c {n : Nat} (g : Gb) (b : Bk n g) (S : Nat → Prop) (M0 : List Bool) (h0 : Cm g.units S M0) (ex : Bool) : Meets Tryz.prog 65 [eBk g, .sl true () 1 (dBools M0)] (.cons (.ptr 0 [.d]) (.cons (.sub 1 [] 0 g.units.length ex) .nil))
  fun av X κ => av = .sub 1 [] 0 g.units.length ex ∧ X = [eBk g, .sl true () 1 (dBools (aboveOf g.units S))] ∧ κ = [(1, [.i 0])] := by
 refine Meets.mono (Meets.warmK (d0 := eBk g) (Y := [.sl true () 1 (dBools M0)]) (t := .cons (.ptr 0 [.d]) (.cons (.sub 1 [] 0 g.units.length ex) .nil)) (by rw [chillE]; exact ecarried_ok g b S M0 h0 ex) (by rintro av X κ ⟨rfl, rfl, rfl⟩; exact ⟨rfl, by simp [T.allOwn]⟩)) ?_
 rintro av X κ ⟨_, _, _, ⟨rfl, rfl, rfl⟩, rfl, rfl, rfl⟩
 exact ⟨rfl, rfl, rfl⟩
theorem einto_c {n : Nat} (g : Gb) (b : Bk n g) (u o : Int) : Meets Tryz.prog 32 [eBk g] (.cons (.ptr 0 [.d]) (.cons (avInt u) (.cons (avInt o) .nil)))
  fun av X κ => av = avInt (intoOf g u o).2 ∧ X = [eBk (intoOf g u o).1] ∧ κ = [(0, [.d])] := by
 cases hh : hasB g u with
 | false =>
  have hc : intoOf g u o = (g, 1) := by simp [intoOf, hh]
  refine fb Tryz.func32 Tryz.ntmps32 [.tmp 6] fun w0 I0 F0 hF => ?_
  repeat first|refine n1 ?_|((first|refine rg 0 [0, 1, 2] [0, 1, 2] [] ?_|refine rg 1 [0, 1, 2] [0, 1, 2, 18] [(4, 13)] ?_);simp (maxSteps := 1000000) [hF])
  refine (ethere_c g u).go [(0, [])] (by simp (maxSteps := 1000000) [hF, eBk, hh]) ?_;rintro av X κ ⟨rfl, rfl, rfl⟩;simp (maxSteps := 1000000) [hF, eBk, hh]
  repeat first|refine n1 ?_|((first|refine rg 2 [] [6] [] ?_|refine nc ?_);simp (maxSteps := 1000000) [hF])
  refine VS.widen [(0, [.d])] (by simp [covers, mpre]) ?_
  (try refine nr ?_);(repeat first|refine nb_ ?_|refine nl_ ?_);refine endK.o [6] [0] [(0, [.d])] ?_;simp [hF, retK, covers, mpre, eBk, hc]
 | true =>
  cases hh2 : hasB g o with
  | false =>
   have hc : intoOf g u o = (g, 1) := by simp [intoOf, hh2]
   refine fb Tryz.func32 Tryz.ntmps32 [.tmp 6] fun w0 I0 F0 hF => ?_
   repeat first|refine n1 ?_|((first|refine rg 0 [0, 1, 2] [0, 1, 2] [] ?_|refine rg 1 [0, 1, 2] [0, 1, 2, 18] [(4, 13)] ?_);simp (maxSteps := 1000000) [hF])
   refine (ethere_c g u).go [(0, [])] (by simp (maxSteps := 1000000) [hF, eBk, hh]) ?_;rintro av X κ ⟨rfl, rfl, rfl⟩;simp (maxSteps := 1000000) [hF, eBk, hh]
   refine (ethere_c g o).go [(0, [])] (by simp (maxSteps := 1000000) [hF, eBk, hh2]) ?_;rintro av X κ ⟨rfl, rfl, rfl⟩;simp (maxSteps := 1000000) [hF, eBk, hh2]
   repeat first|refine n1 ?_|((first|refine rg 2 [] [6] [] ?_|refine nc ?_);simp (maxSteps := 1000000) [hF])
   refine VS.widen [(0, [.d])] (by simp [covers, mpre]) ?_
   (try refine nr ?_);(repeat first|refine nb_ ?_|refine nl_ ?_);refine endK.o [6] [0] [(0, [.d])] ?_;simp [hF, retK, covers, mpre, eBk, hc]
  | true =>
   obtain ⟨i, hi, rfl, hu, _⟩ := unOf_mem hh
   obtain ⟨j, hj, rfl, ho, _⟩ := unOf_mem hh2
   have hn := dUns_nth (o := true) hi
   have hn2 := dUns_nth (o := true) hj
   have hii : (i : Int) < g.units.length := by omega
   have hjj : (j : Int) < g.units.length := by omega
   cases hup : g.units[i].up with
   | false =>
    have hc : intoOf g i j = (g, 8) := by simp [intoOf, hh, hh2, hu, hup]
    refine fb Tryz.func32 Tryz.ntmps32 [.tmp 6] fun w0 I0 F0 hF => ?_
    repeat first|refine n1 ?_|((first|refine rg 0 [0, 1, 2] [0, 1, 2] [] ?_|refine rg 1 [0, 1, 2] [0, 1, 2, 18] [(4, 13)] ?_);simp (maxSteps := 1000000) [hF])
    refine (ethere_c g i).go [(0, [])] (by simp (maxSteps := 1000000) [hF, eBk, hh]) ?_;rintro av X κ ⟨rfl, rfl, rfl⟩;simp (maxSteps := 1000000) [hF, eBk, hh]
    refine (ethere_c g j).go [(0, [])] (by simp (maxSteps := 1000000) [hF, eBk, hh2]) ?_;rintro av X κ ⟨rfl, rfl, rfl⟩;simp (maxSteps := 1000000) [hF, eBk, hh2]
    repeat first|refine n1 ?_|refine n2 ?_|((first|refine rg 3 [0, 1, 2] [0, 1, 2, 38] [(9, 28)] ?_|refine rg 4 [] [6] [] ?_|refine nc ?_);simp (maxSteps := 1000000) [hF, eBk, eBb, hn, hi, hii, hup])
    refine VS.widen [(0, [.d])] (by simp [covers, mpre]) ?_
    (try refine nr ?_);(repeat first|refine nb_ ?_|refine nl_ ?_);refine endK.o [6] [0] [(0, [.d])] ?_;simp [hF, retK, covers, mpre, eBk, eBb, hc]
   | true =>
    cases hup2 : g.units[j].up with
    | false =>
     have hc : intoOf g i j = (g, 8) := by simp [intoOf, hh, hh2, hu, ho, hup, hup2]
     refine fb Tryz.func32 Tryz.ntmps32 [.tmp 6] fun w0 I0 F0 hF => ?_
     repeat first|refine n1 ?_|((first|refine rg 0 [0, 1, 2] [0, 1, 2] [] ?_|refine rg 1 [0, 1, 2] [0, 1, 2, 18] [(4, 13)] ?_);simp (maxSteps := 1000000) [hF])
     refine (ethere_c g i).go [(0, [])] (by simp (maxSteps := 1000000) [hF, eBk, hh]) ?_;rintro av X κ ⟨rfl, rfl, rfl⟩;simp (maxSteps := 1000000) [hF, eBk, hh]
     refine (ethere_c g j).go [(0, [])] (by simp (maxSteps := 1000000) [hF, eBk, hh2]) ?_;rintro av X κ ⟨rfl, rfl, rfl⟩;simp (maxSteps := 1000000) [hF, eBk, hh2]
     repeat first|refine n1 ?_|refine n2 ?_|((first|refine rg 3 [0, 1, 2] [0, 1, 2, 38] [(9, 28)] ?_|refine rg 4 [] [6] [] ?_|refine nc ?_);simp (maxSteps := 1000000) [hF, eBk, eBb, hn, hi, hii, hup, hn2, hj, hjj, hup2])
     refine VS.widen [(0, [.d])] (by simp [covers, mpre]) ?_
     (try refine nr ?_);(repeat first|refine nb_ ?_|refine nl_ ?_);refine endK.o [6] [0] [(0, [.d])] ?_;simp [hF, retK, covers, mpre, eBk, eBb, hc]
    | true =>
     have hil : i < (aboveOf g.units fun x => x = j).length := by simpa using hi
     have hbn := dBools_nth hil
     rw [aboveOf_at hi] at hbn
     have hsm := dUns_same (o := true) hi hup
     cases hr : rcB g.units (fun x => x = j) i with
     | true =>
      have hc : intoOf g i j = (g, 10) := by simp [intoOf, hh, hh2, hu, ho, hup, hup2, hr]
      refine fb Tryz.func32 Tryz.ntmps32 [.tmp 6] fun w0 I0 F0 hF => ?_
      repeat first|refine n1 ?_|((first|refine rg 0 [0, 1, 2] [0, 1, 2] [] ?_|refine rg 1 [0, 1, 2] [0, 1, 2, 18] [(4, 13)] ?_);simp (maxSteps := 1000000) [hF])
      refine (ethere_c g i).go [(0, [])] (by simp (maxSteps := 1000000) [hF, eBk, hh]) ?_;rintro av X κ ⟨rfl, rfl, rfl⟩;simp (maxSteps := 1000000) [hF, eBk, hh]
      refine (ethere_c g j).go [(0, [])] (by simp (maxSteps := 1000000) [hF, eBk, hh2]) ?_;rintro av X κ ⟨rfl, rfl, rfl⟩;simp (maxSteps := 1000000) [hF, eBk, hh2]
      repeat first|refine n1 ?_|refine n2 ?_|((first|refine rg 3 [0, 1, 2] [0, 1, 2, 38] [(9, 28)] ?_|refine rg 5 [0, 1, 2] [0, 1, 2, 46] [] ?_|refine nc ?_);simp (maxSteps := 1000000) [hF, eBk, eBb, hn, hi, hii, hup, hn2, hj, hjj, hup2])
      refine (eone_c g b j hj).go [(0, [])] (by simp (maxSteps := 1000000) [hF, eBk, eBb]) ?_;rintro av X κ ⟨rfl, rfl, rfl⟩;simp (maxSteps := 1000000) [hF, eBk, eBb]
      refine (ecarried_c g b (fun x => x = j) _ (one_cm (n := n) j hj) true).go [(0, []), (1, [])] (by simp (maxSteps := 1000000) [hF, eBk, eBb, hbn, hi, hii, hr]) ?_;rintro av X κ ⟨rfl, rfl, rfl⟩;simp (maxSteps := 1000000) [hF, eBk, eBb, hbn, hi, hii, hr]
      repeat first|refine n1 ?_|((first|refine rg 6 [] [6] [] ?_|refine nc ?_);simp (maxSteps := 1000000) [hF])
      refine VS.widen [(0, [.d])] (by simp [covers, mpre]) ?_
      (try refine nr ?_);(repeat first|refine nb_ ?_|refine nl_ ?_);refine endK.o [6] [0] [(0, [.d])] ?_;simp [hF, retK, covers, mpre, eBk, eBb, hc]
     | false =>
      have hinl := b.inLen i
      rw [innOf_at hi] at hinl
      refine fb Tryz.func32 Tryz.ntmps32 [.tmp 6] fun w0 I0 F0 hF => ?_
      repeat first|refine n1 ?_|((first|refine rg 0 [0, 1, 2] [0, 1, 2] [] ?_|refine rg 1 [0, 1, 2] [0, 1, 2, 18] [(4, 13)] ?_);simp (maxSteps := 1000000) [hF])
      refine (ethere_c g i).go [(0, [])] (by simp (maxSteps := 1000000) [hF, eBk, hh]) ?_;rintro av X κ ⟨rfl, rfl, rfl⟩;simp (maxSteps := 1000000) [hF, eBk, hh]
      refine (ethere_c g j).go [(0, [])] (by simp (maxSteps := 1000000) [hF, eBk, hh2]) ?_;rintro av X κ ⟨rfl, rfl, rfl⟩;simp (maxSteps := 1000000) [hF, eBk, hh2]
      repeat first|refine n1 ?_|refine n2 ?_|((first|refine rg 3 [0, 1, 2] [0, 1, 2, 38] [(9, 28)] ?_|refine rg 5 [0, 1, 2] [0, 1, 2, 46] [] ?_|refine nc ?_);simp (maxSteps := 1000000) [hF, eBk, eBb, hn, hi, hii, hup, hn2, hj, hjj, hup2])
      refine (eone_c g b j hj).go [(0, [])] (by simp (maxSteps := 1000000) [hF, eBk, eBb]) ?_;rintro av X κ ⟨rfl, rfl, rfl⟩;simp (maxSteps := 1000000) [hF, eBk, eBb]
      refine (ecarried_c g b (fun x => x = j) _ (one_cm (n := n) j hj) true).go [(0, []), (1, [])] (by simp (maxSteps := 1000000) [hF, eBk, eBb, hbn, hi, hii, hr]) ?_;rintro av X κ ⟨rfl, rfl, rfl⟩;simp (maxSteps := 1000000) [hF, eBk, eBb, hbn, hi, hii, hr]
      repeat first|refine n1 ?_|refine n2 ?_|refine n3 ?_|((first|refine rg 7 [0, 1, 2] [0, 1, 2, 7] [] ?_|refine rg 8 [0, 1, 2, 7] [0, 1, 2, 7, 8] [] ?_|refine nc ?_);simp (maxSteps := 1000000) [hF, eBk, eBb, hn, hi, hii, hup])
      refine VS.pick [0, 1, 2, 7, 8] [0] (by simp [hF]) ?_;simp [hF]
      refine VS.rounds (fun m st => ∃ (t : Nat), t + m = g.units[i].inn.length ∧ (∀ s, (h : s < g.units[i].inn.length) → s < t → ¬ g.units[i].inn[s] = j) ∧ st = ⟨[(0, .ptr 0 [.d]), (1, avInt i), (2, avInt j), (7, .sub 0 [.d, .f 1, .i i, .f 2] 0 g.units[i].inn.length false), (8, avInt t)], [eBk g], [], []⟩)
       ⟨g.units[i].inn.length, 0, by omega, by omega, by simp [eBk, eBb]⟩ ?_
      rintro m st ⟨t, ht, hall, rfl⟩
      repeat first|refine n1 ?_|((first|refine rg 9 [0, 1, 2, 7, 8] [0, 1, 2, 7, 8, 58] [] ?_|refine nc ?_);simp (maxSteps := 1000000) [hF, eBk, eBb, hn, hi])
      refine ⟨fun hlt => ?_, fun hge => ?_⟩
      ·have htn : t < (nats g.units[i].inn).length := by simpa using hlt
       have hin := dInts_nth htn
       rw [nats_at htn] at hin
       have hw : IntKind.i64.wrap ((t : Int) + 1) = (t + 1 : Nat) := by rw [IntWalk.i64_in _ (by omega)]; rfl
       by_cases hp : g.units[i].inn[t] = j
       ·have hc : intoOf g i j = (g, 0) := by
         have hm : j ∈ g.units[i].inn := hp ▸ List.getElem_mem hlt
         simp [intoOf, hh, hh2, hu, ho, hup, hup2, hr, hm]
        repeat first|refine n1 ?_|refine n2 ?_|refine n3 ?_|((first|refine rg 11 [0, 1, 2, 7, 8] [0, 1, 2, 7, 8, 66] [] ?_|refine rg 12 [] [6] [] ?_|refine nc ?_);simp (maxSteps := 1000000) [hF, eBk, eBb, hn, hi, hin, hlt, hp])
        refine VS.widen [(0, [.d])] (by simp [covers, mpre]) ?_
        (try refine nr ?_);(repeat first|refine nb_ ?_|refine nl_ ?_);refine endK.o [6] [0] [(0, [.d])] ?_;simp [hF, retK, covers, mpre, eBk, eBb, hc]
       ·have hpi : ¬ (g.units[i].inn[t] : Int) = j := by omega
        repeat first|refine n1 ?_|refine n2 ?_|refine n3 ?_|refine n4 ?_|refine n5 ?_|refine n6 ?_|((first|refine rg 10 [0, 1, 2, 7, 8] [0, 1, 2, 7, 8] [] ?_|refine rg 11 [0, 1, 2, 7, 8] [0, 1, 2, 7, 8, 66] [] ?_|refine nc ?_);simp (maxSteps := 1000000) [hF, eBk, eBb, hn, hi, hin, hlt, hp, hpi, hw])
        refine nextK.of [0, 1, 2, 7, 8] [0] (m - 1) (by omega) (by simp [hF]) ?_
        refine ⟨t + 1, by omega, ?_, by simp [eBk, eBb]⟩
        intro s hs hst
        rcases Nat.lt_or_ge s t with h' | h'
        ·exact hall s hs h'
        ·obtain rfl : s = t := by omega
         exact hp
      ·have hm : ¬ j ∈ g.units[i].inn := fun h => by
        obtain ⟨s, hs, e⟩ := List.getElem_of_mem h
        exact hall s hs (by omega) e
       have hc : intoOf g i j = (setU g i { up := true, keys := g.units[i].keys, inn := g.units[i].inn ++ [j] }, 0) := by simp [intoOf, hh, hh2, hu, ho, hup, hup2, hr, hm]
       have hset := dUns_set true g.units i true g.units[i].keys (g.units[i].inn ++ [j])
       rw [nats_snoc] at hset
       have c1 : g.units[i].inn.length * 8 ≤ 140737488355328 := by omega
       have c2 : g.units[i].inn.length ≤ 9223372036854775807 := by omega
       have c3 : (g.units[i].inn.length + 1) * 8 ≤ 140737488355328 := by omega
       have c4 : g.units[i].inn.length ≤ 9223372036854775806 := by omega
       have e1 : movedOf { g with units := g.units.set i ⟨true, g.units[i].keys, g.units[i].inn ++ [j]⟩ } = movedOf g := rfl
       have e2 : serials { g with units := g.units.set i ⟨true, g.units[i].keys, g.units[i].inn ++ [j]⟩ } = serials g := rfl
       repeat first|refine n1 ?_|refine n7 ?_|((refine dr 13 128 [0, 1, 2, 7] [] [] [⟨0, 1, 147573952589676412928, 5⟩, ⟨1, 147573952589676412928, 295147905179352825856, 5⟩, ⟨2, 295147905179352825856, 590295810358705651712, 5⟩, ⟨4, 590295810358705651712, 1180591620717411303424, 6⟩, ⟨0, 2, 2361183241434822606848, 5⟩, ⟨0, 0, 4722366482869645213696, 4⟩, ⟨0, 128, 9444732965739290427392, 5⟩, ⟨96, 14167099448608935641088, 18889465931478580854784, 0⟩, ⟨0, 4, 37778931862957161709568, 5⟩, ⟨256, 37778931862957161709568, 75557863725914323419136, 4⟩, ⟨640, 94447329657392904273920, 151115727451828646838272, 0⟩, ⟨2047, 3541774862152233910272, 302231454903657293676544, 5⟩, ⟨4095, 302231454903657293676544, 604462909807314587353088, 5⟩, ⟨6143, 755578637259143234191360, 0, 0⟩] (.take 0 (.take 1 (.take 2 (.take 4 (.take 6 (.take 8 (.fork (.alt 3 (.fork (.alt 5 (.fork (.alt 7 (.fork (.alt 9 (.fork (.alt 10 (.take 11 (.take 12 (.fork (.alt 13 (.done) (.nil))))) (.nil))) (.nil))) (.alt 9 (.fork (.alt 7 (.fork (.alt 10 (.take 11 (.take 12 (.fork (.alt 13 (.done) (.nil))))) (.nil))) (.nil))) (.nil)))) (.alt 9 (.fork (.alt 5 (.fork (.alt 7 (.fork (.alt 10 (.take 11 (.take 12 (.fork (.alt 13 (.done) (.nil))))) (.nil))) (.nil))) (.nil))) (.nil)))) (.alt 5 (.fork (.alt 3 (.fork (.alt 7 (.fork (.alt 9 (.fork (.alt 10 (.take 11 (.take 12 (.fork (.alt 13 (.done) (.nil))))) (.nil))) (.nil))) (.alt 9 (.fork (.alt 7 (.fork (.alt 10 (.take 11 (.take 12 (.fork (.alt 13 (.done) (.nil))))) (.nil))) (.nil))) (.nil)))) (.alt 7 (.fork (.alt 3 (.fork (.alt 9 (.fork (.alt 10 (.take 11 (.take 12 (.fork (.alt 13 (.done) (.nil))))) (.nil))) (.nil))) (.alt 9 (.fork (.alt 3 (.fork (.alt 10 (.take 11 (.take 12 (.fork (.alt 13 (.done) (.nil))))) (.nil))) (.alt 10 (.take 3 (.take 11 (.take 12 (.fork (.alt 13 (.done) (.nil)))))) (.nil)))) (.nil)))) (.alt 9 (.fork (.alt 3 (.fork (.alt 7 (.fork (.alt 10 (.take 11 (.take 12 (.fork (.alt 13 (.done) (.nil))))) (.nil))) (.nil))) (.alt 7 (.fork (.alt 3 (.fork (.alt 10 (.take 11 (.take 12 (.fork (.alt 13 (.done) (.nil))))) (.nil))) (.alt 10 (.take 3 (.take 11 (.take 12 (.fork (.alt 13 (.done) (.nil)))))) (.nil)))) (.nil)))) (.nil))))) (.alt 9 (.fork (.alt 3 (.fork (.alt 5 (.fork (.alt 7 (.fork (.alt 10 (.take 11 (.take 12 (.fork (.alt 13 (.done) (.nil))))) (.nil))) (.nil))) (.nil))) (.alt 5 (.fork (.alt 3 (.fork (.alt 7 (.fork (.alt 10 (.take 11 (.take 12 (.fork (.alt 13 (.done) (.nil))))) (.nil))) (.nil))) (.alt 7 (.fork (.alt 3 (.fork (.alt 10 (.take 11 (.take 12 (.fork (.alt 13 (.done) (.nil))))) (.nil))) (.alt 10 (.take 3 (.take 11 (.take 12 (.fork (.alt 13 (.done) (.nil)))))) (.nil)))) (.nil)))) (.nil)))) (.nil))))))))))) (.run [0, 1, 2, 4, 6, 8] (.both (.run [3] (.both (.run [5] (.both (.chk 7 (.run [7, 9, 10, 11, 12, 13] (.done))) (.run [9] (.chk 7 (.run [7, 10, 11, 12, 13] (.done)))))) (.run [9, 5] (.chk 7 (.run [7, 10, 11, 12, 13] (.done)))))) (.both (.run [5] (.both (.run [3] (.both (.chk 7 (.run [7, 9, 10, 11, 12, 13] (.done))) (.run [9] (.chk 7 (.run [7, 10, 11, 12, 13] (.done)))))) (.both (.chk 7 (.run [7] (.both (.run [3, 9, 10, 11, 12, 13] (.done)) (.run [9] (.both (.run [3, 10, 11, 12, 13] (.done)) (.run [10, 3, 11, 12, 13] (.done))))))) (.run [9] (.both (.run [3] (.chk 7 (.run [7, 10, 11, 12, 13] (.done)))) (.chk 7 (.run [7] (.both (.run [3, 10, 11, 12, 13] (.done)) (.run [10, 3, 11, 12, 13] (.done)))))))))) (.run [9] (.both (.run [3, 5] (.chk 7 (.run [7, 10, 11, 12, 13] (.done)))) (.run [5] (.both (.run [3] (.chk 7 (.run [7, 10, 11, 12, 13] (.done)))) (.chk 7 (.run [7] (.both (.run [3, 10, 11, 12, 13] (.done)) (.run [10, 3, 11, 12, 13] (.done)))))))))))) ?_;simp only [drs]);simp (maxSteps := 1000000) [hF, eBk, eBb, hn, hi, hii, hup, c1, c2, c3, c4, hset])
       (repeat' with_reducible refine And.intro ?_ ?_)
       all_goals (repeat first|refine n1 ?_|(refine rg 14 [] [6] [] ?_;simp (maxSteps := 1000000) [hF, eBk, eBb, hn, hi, hii, hup, c1, c2, c3, c4, hset]))
       all_goals (refine VS.widen [(0, [.d])] (by simp [covers, mpre]) ?_)
       all_goals ((try refine nr ?_);(repeat first|refine nb_ ?_|refine nl_ ?_);refine endK.o [6] [0] [(0, [.d])] ?_;simp [hF, retK, covers, mpre, eBk, eBb, hc, setU, hset, e1, e2])
def eBx (us : List Un) (mv : List ByteArray) (sr : List Int) : D := .box true () (.agg (.cons (.val (.bool true)) (.cons (.sl true () 3 (dUns true us)) (.cons (.sl true () 1 (strs mv)) (.cons (.sl true () 1 (dInts sr)) .nil)))))
theorem eBk_x (g : Gb) : eBk g = eBx g.units (movedOf g) (serials g) := rfl
@[simp high] theorem head_eBx (us : List Un) (mv : List ByteArray) (sr : List Int) : isHead (eBx us mv sr) = true := by rw [eBx, isHead]
theorem filter_take {l : List Nat} {p : Nat → Bool} {i : Nat} (h : i < l.length) : (l.take (i + 1)).filter p = (l.take i).filter p ++ (if p l[i] = true then [l[i]] else []) := by
 rw [take_succ_at h, List.filter_append, List.filter_cons]; rfl
theorem efall_x {us : List Un} (mv : List ByteArray) (sr : List Int) (S : Nat → Prop) (hul : us.length ≤ 200) (hins : ∀ u ∈ us, u.inn.length ≤ 200 ∧ ∀ y ∈ u.inn, y < us.length) (ex : Bool) :
  Meets Tryz.prog 68 [eBx us mv sr, .sl true () 1 (dBools (aboveOf us S))] (.cons (.ptr 0 [.d]) (.cons (.sub 1 [] 0 us.length ex) .nil))
  fun av X κ => av = .sub 2 [] 0 (numb (aboveOf us S)).length false ∧ X = [eBx (fallU us S) mv sr, .sl true () 1 (dBools (aboveOf us S)), .sl true () 1 (dInts (nats (numb (aboveOf us S))))] ∧ κ = [(0, [.d])] := by
 have h00 := fallT_zero us S
 have hnu := enumb_c ex (aboveOf us S) (by simp; omega)
 rw [aboveOf_len] at hnu
 refine fb Tryz.func68 Tryz.ntmps68 [.tmp 4] fun w0 I0 F0 hF => ?_
 repeat first|refine n1 ?_|refine n3 ?_|((first|refine rg 0 [0, 1] [0, 1] [] ?_|refine rg 1 [0, 1] [0, 1, 5] [] ?_);simp (maxSteps := 1000000) [hF])
 refine VS.widen [(0, [.d])] (by simp [covers, mpre]) ?_
 refine VS.rounds (fun m st => ∃ (i : Nat), i + m = us.length ∧ st = ⟨[(0, .ptr 0 [.d]), (1, .sub 1 [] 0 us.length ex), (5, avInt i)], [eBx (fallT us S i) mv sr, .sl true () 1 (dBools (aboveOf us S))], [(0, [.d])], []⟩) ⟨us.length, 0, by omega, by simp [eBx, h00]⟩ ?_
 rintro m st ⟨i, hi, rfl⟩
 have hTl : (fallT us S i).length = us.length := fallT_len (by omega)
 repeat first|refine n1 ?_|((first|refine rg 2 [0, 1, 5] [0, 1, 5, 14] [] ?_|refine nc ?_);simp (maxSteps := 1000000) [hF, eBx, hTl])
 refine ⟨fun hlt => ?_, fun hge => ?_⟩
 ·have hi' : i < us.length := by omega
  have hiT : i < (fallT us S i).length := by omega
  have hat := fallT_at (S := S) hi' hiT
  have hn := dUns_nth (o := true) hiT
  simp only [hat] at hn
  have hsm := dUns_same (o := true) hiT rfl
  simp only [hat] at hsm
  have hiA : i < (aboveOf us S).length := by simpa using hi'
  have hbn := dBools_nth hiA
  rw [aboveOf_at hi'] at hbn
  have hw : IntKind.i64.wrap ((i : Int) + 1) = (i + 1 : Nat) := by rw [IntWalk.i64_in _ (by omega)]; rfl
  have hii : (i : Int) < us.length := by omega
  cases hr : rcB us S i with
  | true =>
   rw [hr] at hbn
   have hset := dUns_set true (fallT us S i) i false [] []
   rw [fallT_set hi' (fallU_yes hi' hr)] at hset
   simp only [nats_nil, dNil_ints, strs_nil] at hset
   repeat first|refine n1 ?_|refine n2 ?_|refine n3 ?_|refine n7 ?_|refine n8 ?_|((first|refine rg 4 [0, 1, 5] [0, 1, 5, 20] [] ?_|refine rg 5 [0, 1, 5] [0, 1, 5] [] ?_|refine nc ?_);simp (maxSteps := 1000000) [hF, eBx, hbn, hi', hii, hiA, hn, hTl, hiT, hset])
   refine VS.widen [(0, [.d])] (by simp [covers, mpre]) ?_
   repeat first|refine n4 ?_|refine n6 ?_|(refine rg 3 [0, 1, 5] [0, 1, 5] [] ?_;simp (maxSteps := 1000000) [hF, hw])
   refine nextK.of [0, 1, 5] [0, 1] (m - 1) (by omega) (by simp [hF]) ?_
   exact ⟨i + 1, by omega, by simp [eBx]⟩
  | false =>
   rw [hr] at hbn
   obtain ⟨hil, hin⟩ := hins _ (List.getElem_mem hi')
   have hset := dUns_set true (fallT us S i) i us[i].up us[i].keys (us[i].inn.filter fun y => !rcB us S y)
   rw [fallT_set hi' (fallU_no hi' hr)] at hset
   repeat first|refine n1 ?_|refine n2 ?_|refine n3 ?_|((first|refine rg 4 [0, 1, 5] [0, 1, 5, 20] [] ?_|refine nc ?_);simp (maxSteps := 1000000) [hF, eBx, hbn, hi', hii, hiA, hn, hTl, hiT])
   repeat first|refine n1 ?_|refine n3 ?_|((first|refine rg 6 [0, 1, 5] [0, 1, 5, 6] [] ?_|refine rg 7 [0, 1, 5, 6] [0, 1, 5, 6, 7] [] ?_);simp (maxSteps := 1000000) [hF])
   refine VS.hold0 6 1 (by simp) ?_
   refine VS.pick [0, 1, 5, 6, 7] [0, 1, 2] (by simp [hF]) ?_;simp [hF]
   refine VS.rounds (fun m2 st => ∃ (k : Nat) (F : List Nat), k + m2 = us[i].inn.length ∧ F = (us[i].inn.take k).filter (fun y => !rcB us S y) ∧ st = ⟨[(0, .ptr 0 [.d]), (1, .sub 1 [] 0 us.length ex), (5, avInt i), (6, .sub 2 [] 0 F.length false), (7, avInt k)],
    [eBx (fallT us S i) mv sr, .sl true () 1 (dBools (aboveOf us S)), .sl true () 1 (dInts (nats F))], [(0, [.d])], []⟩) ⟨us[i].inn.length, 0, [], by omega, by simp, by simp [eBx]⟩ ?_
   rintro m2 st ⟨k, F, hk, hF0, rfl⟩
   have hFl : F.length ≤ 200 := by
    rw [hF0]
    exact Nat.le_trans (List.length_filter_le _ _) (by rw [List.length_take]; omega)
   repeat first|refine n1 ?_|((first|refine rg 8 [0, 1, 5, 6, 7] [0, 1, 5, 6, 7, 38] [] ?_|refine nc ?_);simp (maxSteps := 1000000) [hF, eBx, hn, hiT, hTl, hi', hii])
   refine ⟨fun hkl => ?_, fun hkge => ?_⟩
   ·have hkn : k < (nats us[i].inn).length := by simpa using hkl
    have hkv := dInts_nth hkn
    rw [nats_at hkn] at hkv
    have hw2 : IntKind.i64.wrap ((k : Int) + 1) = (k + 1 : Nat) := by rw [IntWalk.i64_in _ (by omega)]; rfl
    have hst := filter_take (p := fun y => !rcB us S y) hkl
    rw [← hF0] at hst
    have hyl := hin _ (List.getElem_mem hkl)
    have hyA : us[i].inn[k] < (aboveOf us S).length := by simpa using hyl
    have hbn2 := dBools_nth hyA
    rw [aboveOf_at hyl] at hbn2
    have hyi : (us[i].inn[k] : Int) < us.length := by omega
    have hkk : (k : Int) < us[i].inn.length := by omega
    have c1 : (F.length + 1) * 8 ≤ 140737488355328 := by omega
    have c2 : F.length ≤ 9223372036854775806 := by omega
    cases hr2 : rcB us S us[i].inn[k] with
    | true =>
     rw [hr2] at hbn2
     simp only [hr2, Bool.not_true, Bool.false_eq_true, if_false, List.append_nil] at hst
     repeat first|refine n1 ?_|refine n2 ?_|refine n3 ?_|refine n4 ?_|refine n5 ?_|refine n6 ?_|((first|refine rg 9 [0, 1, 5, 6, 7] [0, 1, 5, 6, 7] [] ?_|refine rg 10 [0, 1, 5, 6, 7] [0, 1, 5, 6, 7, 55] [] ?_|refine nc ?_);simp (maxSteps := 1000000) [hF, eBx, hn, hiT, hTl, hi', hii, hkv, hkl, hkk, hbn2, hyl, hyi, hyA, hw2])
     refine nextK.of [0, 1, 5, 6, 7] [0, 1, 2] (m2 - 1) (by omega) (by simp [hF]) ?_
     exact ⟨k + 1, F, by omega, hst.symm, by simp [eBx]⟩
    | false =>
     rw [hr2] at hbn2
     simp only [hr2, Bool.not_false, if_true] at hst
     repeat first|refine n1 ?_|refine n2 ?_|refine n3 ?_|refine n4 ?_|refine n5 ?_|refine n6 ?_|((first|refine rg 9 [0, 1, 5, 6, 7] [0, 1, 5, 6, 7] [] ?_|refine rg 10 [0, 1, 5, 6, 7] [0, 1, 5, 6, 7, 55] [] ?_|refine rg 11 [0, 1, 5, 6, 7] [0, 1, 5, 6, 7] [] ?_|refine nc ?_);simp (maxSteps := 1000000) [hF, eBx, hn, hiT, hTl, hi', hii, hkv, hkl, hkk, hbn2, hyl, hyi, hyA, hw2, c1, c2])
     refine nextK.of [0, 1, 5, 6, 7] [0, 1, 2] (m2 - 1) (by omega) (by simp [hF]) ?_
     exact ⟨k + 1, _, by omega, hst.symm, by simp [eBx]⟩
   ·have hFf : F = us[i].inn.filter fun y => !rcB us S y := by rw [hF0, List.take_of_length_le (by omega)]
    subst hFf
    repeat first|refine n4 ?_|refine n5 ?_|refine n7 ?_|refine n8 ?_|refine n0 ?_|(refine rg 12 [0, 1, 5, 6] [0, 1, 5] [] ?_;simp (maxSteps := 1000000) [hF, eBx, hn, hiT, hTl, hi', hii, hset])
    refine VS.widen [(0, [.d])] (by simp [covers, mpre]) ?_
    repeat first|refine n4 ?_|refine n6 ?_|(refine rg 3 [0, 1, 5] [0, 1, 5] [] ?_;simp (maxSteps := 1000000) [hF, hw])
    refine nextK.of [0, 1, 5] [0, 1] (m - 1) (by omega) (by simp [hF]) ?_
    exact ⟨i + 1, by omega, by simp [eBx, hset]⟩
 ·have hil : i = us.length := by omega
  subst hil
  have hfa := fallT_all us S
  repeat first|refine n1 ?_|refine n7 ?_|(refine rg 13 [1] [4] [] ?_;simp (maxSteps := 1000000) [hF])
  refine (hnu).go [(1, [])] (by simp (maxSteps := 1000000) [hF, eBx]) ?_;rintro av X κ ⟨rfl, rfl, rfl⟩;simp (maxSteps := 1000000) [hF, eBx]
  (try refine nr ?_);(repeat first|refine nb_ ?_|refine nl_ ?_);refine endK.o [4] [0, 1, 2] [(0, [.d])] ?_;simp [hF, retK, covers, mpre, eBx, hfa]
theorem efall_c {n : Nat} (g : Gb) (b : Bk n g) (S : Nat → Prop) (ex : Bool) :
  Meets Tryz.prog 68 [eBk g, .sl true () 1 (dBools (aboveOf g.units S))] (.cons (.ptr 0 [.d]) (.cons (.sub 1 [] 0 g.units.length ex) .nil))
  fun av X κ => av = .sub 2 [] 0 (fallOf g S).2.length false ∧ X = [eBk (fallOf g S).1, .sl true () 1 (dBools (aboveOf g.units S)), .sl true () 1 (dInts (nats (fallOf g S).2))] ∧ κ = [(0, [.d])] :=
 efall_x (movedOf g) (serials g) S b.len (fun u hu => by
  have h := b.ins u hu
  have := nodup_len h.1 h.2
  have := b.len
  exact ⟨by omega, h.2⟩) ex
theorem edrop_c {n : Nat} (g : Gb) (b : Bk n g) (u : Int) : Meets Tryz.prog 37 [eBk g] (.cons (.ptr 0 [.d]) (.cons (avInt u) .nil))
  fun av X κ => av = avTwo (.sub 1 [] 0 (dropOf g u).2.1.length false) (dropOf g u).2.2 ∧ X = [eBk (dropOf g u).1, .sl true () 1 (dInts (nats (dropOf g u).2.1))] ∧ κ = [(0, [.d])] := by
 cases hh : hasB g u with
 | false =>
  have hc : dropOf g u = (g, [], 1) := by simp [dropOf, hh]
  refine fb Tryz.func37 Tryz.ntmps37 [.tmp 4, .tmp 5] fun w0 I0 F0 hF => ?_
  repeat first|refine n1 ?_|((first|refine rg 0 [0, 1] [0, 1] [] ?_|refine rg 1 [0, 1] [0, 1, 9] [] ?_);simp (maxSteps := 1000000) [hF])
  refine (ethere_c g u).go [(0, [])] (by simp (maxSteps := 1000000) [hF, eBk, hh]) ?_;rintro av X κ ⟨rfl, rfl, rfl⟩;simp (maxSteps := 1000000) [hF, eBk, hh]
  repeat first|refine n1 ?_|((first|refine rg 2 [] [4, 5] [] ?_|refine nc ?_);simp (maxSteps := 1000000) [hF])
  refine VS.widen [(0, [.d])] (by simp [covers, mpre]) ?_
  refine VS.hold0 4 1 (by simp) ?_
  (try refine nr ?_);(repeat first|refine nb_ ?_|refine nl_ ?_);refine endK.o [4, 5] [0, 1] [(0, [.d])] ?_;simp [hF, retK, covers, mpre, eBk, hc]
 | true =>
  obtain ⟨i, hi, rfl, hu, _⟩ := unOf_mem hh
  have hn := dUns_nth (o := true) hi
  have hii : (i : Int) < g.units.length := by omega
  cases hup : g.units[i].up with
  | false =>
   have hc : dropOf g i = (g, [], 8) := by simp [dropOf, hh, hu, hup]
   refine fb Tryz.func37 Tryz.ntmps37 [.tmp 4, .tmp 5] fun w0 I0 F0 hF => ?_
   repeat first|refine n1 ?_|((first|refine rg 0 [0, 1] [0, 1] [] ?_|refine rg 1 [0, 1] [0, 1, 9] [] ?_);simp (maxSteps := 1000000) [hF])
   refine (ethere_c g i).go [(0, [])] (by simp (maxSteps := 1000000) [hF, eBk, hh]) ?_;rintro av X κ ⟨rfl, rfl, rfl⟩;simp (maxSteps := 1000000) [hF, eBk, hh]
   repeat first|refine n1 ?_|refine n2 ?_|((first|refine rg 3 [0, 1] [0, 1, 18] [] ?_|refine rg 4 [] [4, 5] [] ?_|refine nc ?_);simp (maxSteps := 1000000) [hF, eBk, eBb, hn, hi, hii, hup])
   refine VS.widen [(0, [.d])] (by simp [covers, mpre]) ?_
   refine VS.hold0 4 1 (by simp) ?_
   (try refine nr ?_);(repeat first|refine nb_ ?_|refine nl_ ?_);refine endK.o [4, 5] [0, 1] [(0, [.d])] ?_;simp [hF, retK, covers, mpre, eBk, eBb, hc]
  | true =>
   have hc : dropOf g i = ((fallOf g fun x => x = i).1, (fallOf g fun x => x = i).2, 0) := by simp [dropOf, hh, hu, hup]
   refine fb Tryz.func37 Tryz.ntmps37 [.tmp 4, .tmp 5] fun w0 I0 F0 hF => ?_
   repeat first|refine n1 ?_|((first|refine rg 0 [0, 1] [0, 1] [] ?_|refine rg 1 [0, 1] [0, 1, 9] [] ?_);simp (maxSteps := 1000000) [hF])
   refine (ethere_c g i).go [(0, [])] (by simp (maxSteps := 1000000) [hF, eBk, hh]) ?_;rintro av X κ ⟨rfl, rfl, rfl⟩;simp (maxSteps := 1000000) [hF, eBk, hh]
   repeat first|refine n1 ?_|refine n2 ?_|((first|refine rg 3 [0, 1] [0, 1, 18] [] ?_|refine rg 5 [0, 1] [4, 5] [] ?_|refine nc ?_);simp (maxSteps := 1000000) [hF, eBk, eBb, hn, hi, hii, hup])
   refine (eone_c g b i hi).go [(0, [])] (by simp (maxSteps := 1000000) [hF, eBk, eBb]) ?_;rintro av X κ ⟨rfl, rfl, rfl⟩;simp (maxSteps := 1000000) [hF, eBk, eBb]
   refine (ecarried_c g b (fun x => x = i) _ (one_cm (n := n) i hi) true).go [(0, []), (1, [])] (by simp (maxSteps := 1000000) [hF, eBk, eBb]) ?_;rintro av X κ ⟨rfl, rfl, rfl⟩;simp (maxSteps := 1000000) [hF, eBk, eBb]
   refine (efall_c g b (fun x => x = i) true).go [(0, []), (1, [])] (by simp (maxSteps := 1000000) [hF, eBk, eBb]) ?_;rintro av X κ ⟨rfl, rfl, rfl⟩;simp (maxSteps := 1000000) [hF, eBk, eBb]
   (try refine nr ?_);(repeat first|refine nb_ ?_|refine nl_ ?_);refine endK.o [4, 5] [0, 2] [(0, [.d])] ?_;simp [hF, retK, covers, mpre, eBk, eBb, hc]
theorem erenew_c {n : Nat} (g : Gb) (b : Bk n g) (u : Int) (ex : Bool) (l : List ByteArray) (hl : l.length ≤ 100000) : Meets Tryz.prog 35 [eBk g] (.cons (.ptr 0 [.d]) (.cons (avInt u) (.cons (.imm 1 (strs l) ex) .nil)))
  fun av X κ => av = avInt (renewOf g u l).2 ∧ X = [eBk (renewOf g u l).1] ∧ κ = [(0, [.d])] := by
 cases hh : hasB g u with
 | false =>
  have hc : renewOf g u l = (g, 1) := by simp [renewOf, hh]
  refine fb Tryz.func35 Tryz.ntmps35 [.tmp 6] fun w0 I0 F0 hF => ?_
  repeat first|refine n1 ?_|((first|refine rg 0 [0, 1, 2] [0, 1, 2] [] ?_|refine rg 1 [0, 1, 2] [0, 1, 2, 12] [] ?_);simp (maxSteps := 1000000) [hF])
  refine (ethere_c g u).go [(0, [])] (by simp (maxSteps := 1000000) [hF, eBk, hh]) ?_;rintro av X κ ⟨rfl, rfl, rfl⟩;simp (maxSteps := 1000000) [hF, eBk, hh]
  repeat first|refine n1 ?_|((first|refine rg 2 [] [6] [] ?_|refine nc ?_);simp (maxSteps := 1000000) [hF])
  refine VS.widen [(0, [.d])] (by simp [covers, mpre]) ?_
  (try refine nr ?_);(repeat first|refine nb_ ?_|refine nl_ ?_);refine endK.o [6] [0] [(0, [.d])] ?_;simp [hF, retK, covers, mpre, eBk, hc]
 | true =>
  obtain ⟨i, hi, rfl, hu, _⟩ := unOf_mem hh
  have hn := dUns_nth (o := true) hi
  have hii : (i : Int) < g.units.length := by omega
  rcases keysE_cases l with he | he | he
  ·have hc : renewOf g i l = (g, 6) := by simp [renewOf, hh, he]
   refine fb Tryz.func35 Tryz.ntmps35 [.tmp 6] fun w0 I0 F0 hF => ?_
   repeat first|refine n1 ?_|((first|refine rg 0 [0, 1, 2] [0, 1, 2] [] ?_|refine rg 1 [0, 1, 2] [0, 1, 2, 12] [] ?_);simp (maxSteps := 1000000) [hF])
   refine (ethere_c g i).go [(0, [])] (by simp (maxSteps := 1000000) [hF, eBk, hh]) ?_;rintro av X κ ⟨rfl, rfl, rfl⟩;simp (maxSteps := 1000000) [hF, eBk, hh]
   repeat first|refine n1 ?_|refine n2 ?_|((first|refine rg 3 [0, 1, 2] [0, 1, 7, 8] [] ?_|refine nc ?_);simp (maxSteps := 1000000) [hF])
   refine (ekeys_6 ex l hl he).go [] (by simp (maxSteps := 1000000) [hF]) ?_;rintro av X κ ⟨rfl, rfl, rfl⟩;simp (maxSteps := 1000000) [hF]
   repeat first|refine n1 ?_|((first|refine rg 4 [0, 1, 7, 8] [0, 1, 7, 8, 19] [] ?_|refine rg 5 [8] [6] [] ?_|refine nc ?_);simp (maxSteps := 1000000) [hF])
   refine VS.widen [(0, [.d])] (by simp [covers, mpre]) ?_
   (try refine nr ?_);(repeat first|refine nb_ ?_|refine nl_ ?_);refine endK.o [6] [0] [(0, [.d])] ?_;simp [hF, retK, covers, mpre, eBk, hc]
  ·cases hup : g.units[i].up with
   | true =>
    have hc : renewOf g i l = (g, 8) := by simp [renewOf, hh, he, hu, hup]
    refine fb Tryz.func35 Tryz.ntmps35 [.tmp 6] fun w0 I0 F0 hF => ?_
    repeat first|refine n1 ?_|((first|refine rg 0 [0, 1, 2] [0, 1, 2] [] ?_|refine rg 1 [0, 1, 2] [0, 1, 2, 12] [] ?_);simp (maxSteps := 1000000) [hF])
    refine (ethere_c g i).go [(0, [])] (by simp (maxSteps := 1000000) [hF, eBk, hh]) ?_;rintro av X κ ⟨rfl, rfl, rfl⟩;simp (maxSteps := 1000000) [hF, eBk, hh]
    repeat first|refine n1 ?_|refine n2 ?_|((first|refine rg 3 [0, 1, 2] [0, 1, 7, 8] [] ?_|refine nc ?_);simp (maxSteps := 1000000) [hF])
    refine (ekeys_9 ex l hl he).go [] (by simp (maxSteps := 1000000) [hF]) ?_;rintro av X κ ⟨rfl, rfl, rfl⟩;simp (maxSteps := 1000000) [hF]
    repeat first|refine n1 ?_|refine n2 ?_|((first|refine rg 4 [0, 1, 7, 8] [0, 1, 7, 8, 19] [] ?_|refine rg 6 [0, 1, 7, 8] [0, 1, 7, 8, 28] [] ?_|refine rg 7 [] [6] [] ?_|refine nc ?_);simp (maxSteps := 1000000) [hF, eBk, eBb, hn, hi, hii, hup])
    refine VS.widen [(0, [.d])] (by simp [covers, mpre]) ?_
    (try refine nr ?_);(repeat first|refine nb_ ?_|refine nl_ ?_);refine endK.o [6] [0] [(0, [.d])] ?_;simp [hF, retK, covers, mpre, eBk, eBb, hc]
   | false =>
    have hc : renewOf g i l = (g, 9) := by simp [renewOf, hh, he, hu, hup]
    refine fb Tryz.func35 Tryz.ntmps35 [.tmp 6] fun w0 I0 F0 hF => ?_
    repeat first|refine n1 ?_|((first|refine rg 0 [0, 1, 2] [0, 1, 2] [] ?_|refine rg 1 [0, 1, 2] [0, 1, 2, 12] [] ?_);simp (maxSteps := 1000000) [hF])
    refine (ethere_c g i).go [(0, [])] (by simp (maxSteps := 1000000) [hF, eBk, hh]) ?_;rintro av X κ ⟨rfl, rfl, rfl⟩;simp (maxSteps := 1000000) [hF, eBk, hh]
    repeat first|refine n1 ?_|refine n2 ?_|((first|refine rg 3 [0, 1, 2] [0, 1, 7, 8] [] ?_|refine nc ?_);simp (maxSteps := 1000000) [hF])
    refine (ekeys_9 ex l hl he).go [] (by simp (maxSteps := 1000000) [hF]) ?_;rintro av X κ ⟨rfl, rfl, rfl⟩;simp (maxSteps := 1000000) [hF]
    repeat first|refine n1 ?_|refine n2 ?_|((first|refine rg 4 [0, 1, 7, 8] [0, 1, 7, 8, 19] [] ?_|refine rg 6 [0, 1, 7, 8] [0, 1, 7, 8, 28] [] ?_|refine rg 8 [0, 1, 7, 8] [0, 1, 7, 8, 30] [] ?_|refine rg 9 [8] [6] [] ?_|refine nc ?_);simp (maxSteps := 1000000) [hF, eBk, eBb, hn, hi, hii, hup])
    refine VS.widen [(0, [.d])] (by simp [covers, mpre]) ?_
    (try refine nr ?_);(repeat first|refine nb_ ?_|refine nl_ ?_);refine endK.o [6] [0] [(0, [.d])] ?_;simp [hF, retK, covers, mpre, eBk, eBb, hc]
  ·cases hup : g.units[i].up with
   | true =>
    have hc : renewOf g i l = (g, 8) := by simp [renewOf, hh, he, hu, hup]
    refine fb Tryz.func35 Tryz.ntmps35 [.tmp 6] fun w0 I0 F0 hF => ?_
    repeat first|refine n1 ?_|((first|refine rg 0 [0, 1, 2] [0, 1, 2] [] ?_|refine rg 1 [0, 1, 2] [0, 1, 2, 12] [] ?_);simp (maxSteps := 1000000) [hF])
    refine (ethere_c g i).go [(0, [])] (by simp (maxSteps := 1000000) [hF, eBk, hh]) ?_;rintro av X κ ⟨rfl, rfl, rfl⟩;simp (maxSteps := 1000000) [hF, eBk, hh]
    repeat first|refine n1 ?_|refine n2 ?_|((first|refine rg 3 [0, 1, 2] [0, 1, 7, 8] [] ?_|refine nc ?_);simp (maxSteps := 1000000) [hF])
    refine (ekeys_0 ex l hl he).go [] (by simp (maxSteps := 1000000) [hF]) ?_;rintro av X κ ⟨rfl, rfl, rfl⟩;simp (maxSteps := 1000000) [hF]
    repeat first|refine n1 ?_|refine n2 ?_|((first|refine rg 4 [0, 1, 7, 8] [0, 1, 7, 8, 19] [] ?_|refine rg 6 [0, 1, 7, 8] [0, 1, 7, 8, 28] [] ?_|refine rg 7 [] [6] [] ?_|refine nc ?_);simp (maxSteps := 1000000) [hF, eBk, eBb, hn, hi, hii, hup])
    refine VS.widen [(0, [.d])] (by simp [covers, mpre]) ?_
    (try refine nr ?_);(repeat first|refine nb_ ?_|refine nl_ ?_);refine endK.o [6] [0] [(0, [.d])] ?_;simp [hF, retK, covers, mpre, eBk, eBb, hc]
   | false =>
    have hin : g.units[i].inn = [] := (b.down _ (List.getElem_mem hi) hup).2
    have hc : renewOf g i l = (setU g i ⟨true, keysS l, []⟩, 0) := by simp [renewOf, hh, he, hu, hup, hin]
    have hset := dUns_set true g.units i true (keysS l) []
    simp only [nats_nil, dNil_ints] at hset
    have e1 : movedOf { g with units := g.units.set i ⟨true, keysS l, []⟩ } = movedOf g := rfl
    have e2 : serials { g with units := g.units.set i ⟨true, keysS l, []⟩ } = serials g := rfl
    refine fb Tryz.func35 Tryz.ntmps35 [.tmp 6] fun w0 I0 F0 hF => ?_
    repeat first|refine n1 ?_|((first|refine rg 0 [0, 1, 2] [0, 1, 2] [] ?_|refine rg 1 [0, 1, 2] [0, 1, 2, 12] [] ?_);simp (maxSteps := 1000000) [hF])
    refine (ethere_c g i).go [(0, [])] (by simp (maxSteps := 1000000) [hF, eBk, hh]) ?_;rintro av X κ ⟨rfl, rfl, rfl⟩;simp (maxSteps := 1000000) [hF, eBk, hh]
    repeat first|refine n1 ?_|refine n2 ?_|((first|refine rg 3 [0, 1, 2] [0, 1, 7, 8] [] ?_|refine nc ?_);simp (maxSteps := 1000000) [hF])
    refine (ekeys_0 ex l hl he).go [] (by simp (maxSteps := 1000000) [hF]) ?_;rintro av X κ ⟨rfl, rfl, rfl⟩;simp (maxSteps := 1000000) [hF]
    repeat first|refine n1 ?_|refine n2 ?_|((first|refine rg 4 [0, 1, 7, 8] [0, 1, 7, 8, 19] [] ?_|refine rg 6 [0, 1, 7, 8] [0, 1, 7, 8, 28] [] ?_|refine rg 8 [0, 1, 7, 8] [0, 1, 7, 8, 30] [] ?_|refine rg 10 [0, 1, 7] [] [] ?_|refine rg 11 [] [6] [] ?_|refine nc ?_);simp (maxSteps := 1000000) [hF, eBk, eBb, hn, hi, hii, hup, hset])
    refine VS.widen [(0, [.d])] (by simp [covers, mpre]) ?_
    (try refine nr ?_);(repeat first|refine nb_ ?_|refine nl_ ?_);refine endK.o [6] [0] [(0, [.d])] ?_;simp [hF, retK, covers, mpre, eBk, eBb, hc, setU, hset, e1, e2]
theorem eserial_c {n : Nat} (g : Gb) (b : Bk n g) (hn : n ≤ 1000000) (k : ByteArray) : Meets Tryz.prog 45 [eBk g] (.cons (.ptr 0 [.d]) (.cons (avStr k) .nil)) fun av X κ => av = avTwo (avInt (serialQ g k).1) (serialQ g k).2 ∧ X = [eBk g] ∧ κ = [] :=
 warmE (eserial_ok g b hn k) rfl rfl (by simp) rfl
theorem emove_c {n : Nat} (g : Gb) (f : Fb n g) (hn : n ≤ 1000000) (k : ByteArray) : Meets Tryz.prog 33 [eBk g] (.cons (.ptr 0 [.d]) (.cons (avStr k) .nil))
  fun av X κ => av = avTwo (.sub 1 [] 0 (moveOf g k).2.1.length false) (moveOf g k).2.2 ∧ X = [eBk (moveOf g k).1, .sl true () 1 (dInts (nats (moveOf g k).2.1))] ∧ κ = [(0, [.d])] := by
 have b := f.bk
 cases hk : isKeyB k with
 | false =>
  have hc : moveOf g k = (g, [], 6) := by simp [moveOf, hk]
  refine fb Tryz.func33 Tryz.ntmps33 [.tmp 4, .tmp 5] fun w0 I0 F0 hF => ?_
  repeat first|refine n1 ?_|((first|refine rg 0 [0, 1] [0, 1] [] ?_|refine rg 1 [0, 1] [0, 1, 6] [] ?_);simp (maxSteps := 1000000) [hF])
  refine (easked_c g k).go [(0, [])] (by simp (maxSteps := 1000000) [hF, eBk, hk]) ?_;rintro av X κ ⟨rfl, rfl, rfl⟩;simp (maxSteps := 1000000) [hF, eBk, hk]
  repeat first|refine n1 ?_|((first|refine rg 2 [0, 1, 6] [0, 1, 6, 17] [] ?_|refine rg 3 [6] [4, 5] [] ?_|refine nc ?_);simp (maxSteps := 1000000) [hF])
  refine VS.widen [(0, [.d])] (by simp [covers, mpre]) ?_
  refine VS.hold0 4 1 (by simp) ?_
  (try refine nr ?_);(repeat first|refine nb_ ?_|refine nl_ ?_);refine endK.o [4, 5] [0, 1] [(0, [.d])] ?_;simp [hF, retK, covers, mpre, eBk, hc]
 | true =>
  have hc : moveOf g k = ((fallOf { g with ser := bump g.ser k } (relyB g.units k)).1, (fallOf g (relyB g.units k)).2, 0) := by simp [moveOf, hk]
  have hb : Bk (n + 1) { g with ser := bump g.ser k } := b_bump b k
  have hfa : (fallOf { g with ser := bump g.ser k } (relyB g.units k)).2 = (fallOf g (relyB g.units k)).2 := rfl
  have hml := movedOf_len b
  obtain ⟨mv, hmv⟩ : ∃ mv, mv = movedOf { g with ser := bump g.ser k } := ⟨_, rfl⟩
  obtain ⟨sr0, hsr⟩ : ∃ sr0, sr0 = mv.map (serOf g.ser) := ⟨_, rfl⟩
  have hins : insS k (movedOf g) = mv := by rw [hmv, movedOf_bump]
  have hmvl : mv.length ≤ 1000001 := by rw [← hins]; exact Nat.le_trans insS_len (by omega)
  have hzero : serT mv g.ser k 0 = sr0 := by rw [serT_zero, hsr]
  refine fb Tryz.func33 Tryz.ntmps33 [.tmp 4, .tmp 5] fun w0 I0 F0 hF => ?_
  repeat first|refine n1 ?_|((first|refine rg 0 [0, 1] [0, 1] [] ?_|refine rg 1 [0, 1] [0, 1, 6] [] ?_);simp (maxSteps := 1000000) [hF])
  refine (easked_c g k).go [(0, [])] (by simp (maxSteps := 1000000) [hF, eBk, eBb, hk]) ?_;rintro av X κ ⟨rfl, rfl, rfl⟩;simp (maxSteps := 1000000) [hF, eBk, eBb, hk]
  repeat first|refine n1 ?_|refine n2 ?_|((first|refine rg 2 [0, 1, 6] [0, 1, 6, 17] [] ?_|refine rg 4 [0, 1] [0, 1, 25] [] ?_|refine nc ?_);simp (maxSteps := 1000000) [hF, eBk, eBb])
  apply merged
  ·intro key
   cases hh : hasS (movedOf g) k with
   | true =>
    have h1 : movedOf g = mv := by rw [← hins]; exact (insS_has (l := movedOf g) (keysS_asc _) hh).symm
    have h2 : serials g = sr0 := by rw [hsr, ← h1]; rfl
    refine (ehas_c false (movedOf g) k (by omega)).go [(0, [.d, .f 2])] (by simp (maxSteps := 1000000) [hF, hh]) ?_;rintro av X κ ⟨rfl, rfl, rfl⟩;simp (maxSteps := 1000000) [hF, hh]
    repeat first|refine n1 ?_|refine n2 ?_|(refine nc ?_;simp (maxSteps := 1000000) [hF])
    refine VS.widen [(0, [.d])] (by simp [covers, mpre]) ?_
    refine VS.pick [0, 1] [0] (by simp [hF]) ?_;simp [hF]
    simp only [h1, h2, tick_eq]
    exact key ()
   | false =>
    have hse : ∀ x ∈ mv, serialQ g x = (serOf g.ser x, 0) := fun x hx => by
     have hkx : isKeyB x = true := by
      rw [← hins] at hx
      rcases insS_mem.1 hx with rfl | hx
      ·exact hk
      ·exact movedOf_key f.nk hx
     simp [serialQ, hkx]
    refine (ehas_c false (movedOf g) k (by omega)).go [(0, [.d, .f 2])] (by simp (maxSteps := 1000000) [hF, hh]) ?_;rintro av X κ ⟨rfl, rfl, rfl⟩;simp (maxSteps := 1000000) [hF, hh]
    repeat first|refine n1 ?_|((first|refine rg 5 [0, 1] [0, 1, 7] [] ?_|refine nc ?_);simp (maxSteps := 1000000) [hF])
    refine (with_not false (movedOf g) k (by omega) hh).go [(0, [.d, .f 2])] (by simp (maxSteps := 1000000) [hF, hins]) ?_;rintro av X κ ⟨rfl, rfl, rfl⟩;simp (maxSteps := 1000000) [hF, hins]
    repeat first|refine n1 ?_|refine n3 ?_|((first|refine rg 6 [0, 1, 7] [0, 1, 7, 8] [] ?_|refine rg 7 [0, 1, 7, 8] [0, 1, 7, 8, 9] [] ?_);simp (maxSteps := 1000000) [hF])
    refine VS.hold0 8 1 (by simp) ?_
    refine VS.pick [0, 1, 7, 8, 9] [0, 1, 2] (by simp [hF]) ?_;simp [hF]
    refine VS.rounds (fun m st => ∃ (i : Nat) (sr : List Int), i + m = mv.length ∧ sr = (mv.take i).map (serOf g.ser) ∧ st = ⟨[(0, .ptr 0 [.d]), (1, avStr k), (7, .sub 1 [] 0 mv.length false), (8, .sub 2 [] 0 sr.length false), (9, avInt i)], [eBk g, .sl true () 1 (strs mv), .sl true () 1 (dInts sr)], [], []⟩)
     ⟨mv.length, 0, [], by omega, by simp, by simp [eBk, eBb]⟩ ?_
    rintro m st ⟨i, sr, hi, hsri, rfl⟩
    have hsl : sr.length = i := by rw [hsri, List.length_map, List.length_take]; omega
    repeat first|refine n1 ?_|((first|refine rg 8 [0, 1, 7, 8, 9] [0, 1, 7, 8, 9, 35] [] ?_|refine nc ?_);simp (maxSteps := 1000000) [hF])
    refine ⟨fun hlt => ?_, fun hge => ?_⟩
    ·have hn1 := strs_nth hlt
     have hw : IntKind.i64.wrap ((i : Int) + 1) = (i + 1 : Nat) := by rw [IntWalk.i64_in _ (by omega)]; rfl
     have hq := hse _ (List.getElem_mem hlt)
     have hst := take_map_succ (serOf g.ser) hlt
     rw [← hsri] at hst
     have c1 : (sr.length + 1) * 8 ≤ 140737488355328 := by omega
     have c2 : sr.length ≤ 9223372036854775806 := by omega
     repeat first|refine n1 ?_|refine n2 ?_|refine n3 ?_|(refine rg 10 [0, 1, 7, 8, 9] [0, 1, 7, 8, 9, 10] [] ?_;simp (maxSteps := 1000000) [hF, hn1, hlt])
     refine (eserial_c g b hn mv[i]).go [(0, [])] (by simp (maxSteps := 1000000) [hF, eBk, hq]) ?_;rintro av X κ ⟨rfl, rfl, rfl⟩;simp (maxSteps := 1000000) [hF, eBk, hq]
     repeat first|refine n4 ?_|refine n5 ?_|refine n6 ?_|((first|refine rg 9 [0, 1, 7, 8, 9] [0, 1, 7, 8, 9] [] ?_|refine rg 11 [0, 1, 7, 8, 9, 10] [0, 1, 7, 8, 9] [] ?_);simp (maxSteps := 1000000) [hF, c1, c2, hw])
     refine nextK.of [0, 1, 7, 8, 9] [0, 1, 2] (m - 1) (by omega) (by simp [hF]) ?_
     exact ⟨i + 1, _, by omega, hst.symm, by simp [eBk]⟩
    ·rw [List.take_of_length_le (by omega), ← hsr] at hsri
     subst hsri
     repeat first|refine n1 ?_|refine n7 ?_|((first|refine rg 12 [0, 1, 7, 8] [0, 1, 8] [] ?_|refine rg 13 [0, 1, 8] [0, 1] [] ?_);simp (maxSteps := 1000000) [hF, eBk, eBb])
     refine VS.widen [(0, [.d])] (by simp [covers, mpre]) ?_
     refine VS.pick [0, 1] [0] (by simp [hF]) ?_;simp [hF]
     exact key ()
  repeat first|refine n3 ?_|(refine rg 14 [0, 1] [0, 1, 12] [] ?_;simp (maxSteps := 1000000) [hF])
  refine VS.rounds (fun m st => ∃ (i : Nat), i + m = mv.length ∧ st = ⟨[(0, .ptr 0 [.d]), (1, avStr k), (12, avInt i)], [eBx g.units mv (serT mv g.ser k i)], [(0, [.d])], []⟩) ⟨mv.length, 0, by omega, by simp [eBx, hzero]⟩ ?_
  rintro m st ⟨i, hi, rfl⟩
  repeat first|refine n1 ?_|((first|refine rg 15 [0, 1, 12] [0, 1, 12, 65] [] ?_|refine nc ?_);simp (maxSteps := 1000000) [hF, eBx])
  refine ⟨fun hlt => ?_, fun hge => ?_⟩
  ·have hn1 := strs_nth hlt
   have hw : IntKind.i64.wrap ((i : Int) + 1) = (i + 1 : Nat) := by rw [IntWalk.i64_in _ (by omega)]; rfl
   have hSl : (serT mv g.ser k i).length = mv.length := serT_len (by omega)
   have hiS : i < (serT mv g.ser k i).length := by omega
   have hn2 := dInts_nth hiS
   rw [serT_at hlt hiS] at hn2
   have hii : (i : Int) < mv.length := by omega
   by_cases hp : mv[i] = k
   ·have hle := serOf_le b mv[i]
    have hw2 : IntKind.i64.wrap (serOf g.ser mv[i] + 1) = serOf g.ser mv[i] + 1 := IntWalk.i64_in _ (by omega)
    have hsb : serOf (bump g.ser k) mv[i] = serOf g.ser mv[i] + 1 := by rw [serOf_bump, if_pos hp, hp]
    have hset : (dInts (serT mv g.ser k i)).setN i (.val (.int .i64 (serOf g.ser mv[i] + 1))) = dInts (serT mv g.ser k (i + 1)) := by
     rw [dInts_setN, ← hsb, serT_set hlt]
    rw [hp] at hn1 hn2 hw2 hset
    repeat first|refine n1 ?_|refine n2 ?_|refine n3 ?_|refine n4 ?_|refine n5 ?_|((first|refine rg 17 [0, 1, 12] [0, 1, 12, 76] [] ?_|(refine dr 18 0 [0, 1, 12] [0, 1, 12] [] [⟨0, 1, 151115727451828646838272, 5⟩, ⟨1, 151115727451828646838272, 302231454903657293676544, 5⟩, ⟨2, 302231454903657293676544, 604462909807314587353088, 5⟩, ⟨4, 604462909807314587353088, 1208925819614629174706176, 6⟩, ⟨0, 4096, 2417851639229258349412352, 5⟩, ⟨0, 1, 4835703278458516698824704, 5⟩, ⟨32, 4835703278458516698824704, 9671406556917033397649408, 5⟩, ⟨64, 9671406556917033397649408, 19342813113834066795298816, 5⟩, ⟨128, 19342813113834066795298816, 38685626227668133590597632, 6⟩, ⟨0, 4096, 77371252455336267181195264, 5⟩, ⟨768, 116056878683004400771792896, 154742504910672534362390528, 5⟩, ⟨1024, 154742504910672534362390528, 309485009821345068724781056, 6⟩, ⟨2048, 309485009821345068724781056, 618970019642690137449562112, 5⟩, ⟨8191, 3626777458843887524118528, 1237940039285380274899124224, 5⟩, ⟨16383, 1856910058928070412348686336, 0, 0⟩] (.take 0 (.take 1 (.take 2 (.take 3 (.take 4 (.take 5 (.take 6 (.take 7 (.take 8 (.take 9 (.take 10 (.take 11 (.take 12 (.take 13 (.fork (.alt 14 (.done) (.nil))))))))))))))))) (.run [0, 1, 2, 3, 4, 5, 6, 7, 8, 9, 10, 11, 12, 13, 14] (.done)) ?_;simp only [drs])|refine nc ?_);simp (maxSteps := 1000000) [hF, eBx, hn1, hlt, hii, hiS, hSl, hn2, hw2, hset])
    refine VS.widen [(0, [.d])] (by simp [covers, mpre]) ?_
    repeat first|refine n4 ?_|refine n6 ?_|(refine rg 16 [0, 1, 12] [0, 1, 12] [] ?_;simp (maxSteps := 1000000) [hF, hw])
    refine nextK.of [0, 1, 12] [0] (m - 1) (by omega) (by simp [hF]) ?_
    exact ⟨i + 1, by omega, by simp [eBx]⟩
   ·have hsame := serT_same (m := g.ser) hlt hp
    repeat first|refine n1 ?_|refine n2 ?_|refine n3 ?_|refine n4 ?_|refine n5 ?_|refine n6 ?_|((first|refine rg 16 [0, 1, 12] [0, 1, 12] [] ?_|refine rg 17 [0, 1, 12] [0, 1, 12, 76] [] ?_|refine nc ?_);simp (maxSteps := 1000000) [hF, eBx, hn1, hlt, hii, hp, hw])
    refine nextK.of [0, 1, 12] [0] (m - 1) (by omega) (by simp [hF]) ?_
    exact ⟨i + 1, by omega, by simp [eBx, hsame]⟩
  ·have hil : i = mv.length := by omega
   subst hil
   have hall := serT_all mv g.ser k
   have hsr' : serials { g with ser := bump g.ser k } = serT mv g.ser k mv.length := by rw [hall, hmv]; rfl
   have hmv' := hmv.symm
   repeat first|refine n1 ?_|refine n7 ?_|(refine rg 19 [0, 1] [4, 5] [] ?_;simp (maxSteps := 1000000) [hF])
   refine (ewho_c { g with ser := bump g.ser k } hb k).go [(0, [])] (by simp (maxSteps := 1000000) [hF, eBk, eBb, hsr', hmv']) ?_;rintro av X κ ⟨rfl, rfl, rfl⟩;simp (maxSteps := 1000000) [hF, eBk, eBb, hsr', hmv']
   refine (efall_c { g with ser := bump g.ser k } hb (relyB g.units k) true).go [(0, []), (1, [])] (by simp (maxSteps := 1000000) [hF, eBk, eBb, hsr', hmv']) ?_;rintro av X κ ⟨rfl, rfl, rfl⟩;simp (maxSteps := 1000000) [hF, eBk, eBb, hsr', hmv']
   (try refine nr ?_);(repeat first|refine nb_ ?_|refine nl_ ?_);refine endK.o [4, 5] [0, 2] [(0, [.d])] ?_;simp [hF, retK, covers, mpre, eBk, eBb, hc, hfa, hsr', hmv']
end Go.Proofs.YtipokdbfdingmaaGreat

/- Books of grounds, plainly: deeds, one behind the other. -/
namespace Go.Proofs.YtipokdbfdingmaaGreat
set_option linter.all false
open Go.Vc Go.Proofs
structure Gd where
  d : Int
  u : Int
  o : Int
  k : ByteArray
  l : List ByteArray
noncomputable def doG (g : Gb) (x : Gd) : Gb × List Nat :=
  if x.d = 0 then ((unitOf g x.l).1, if (unitOf g x.l).2.2 = 0 then [g.units.length] else [])
  else if x.d = 1 then ((relyOf g x.u x.k).1, [])
  else if x.d = 2 then ((intoOf g x.u x.o).1, [])
  else if x.d = 3 then ((moveOf g x.k).1, (moveOf g x.k).2.1)
  else if x.d = 4 then ((renewOf g x.u x.l).1, [])
  else if x.d = 5 then ((dropOf g x.u).1, (dropOf g x.u).2.1)
  else (g, [])
theorem Fb.up {n : Nat} {g : Gb} (f : Fb n g) : Fb (n + 1) g := ⟨f.bk.up, f.nk⟩
theorem Fb.mono {n m : Nat} {g : Gb} (f : Fb n g) (h : n ≤ m) : Fb m g := by
  induction h with
  | refl => exact f
  | step _ ih => exact ih.up
theorem fb_do {n : Nat} {g : Gb} (f : Fb n g) (x : Gd) : Fb (n + 1) (doG g x).1 := by
  unfold doG
  repeat' split
  · exact Fb.up ⟨b_unit f.bk _, n_unit f.nk _⟩
  · exact Fb.up ⟨b_unit f.bk _, n_unit f.nk _⟩
  · exact Fb.up ⟨b_rely f.bk _ _, n_rely f.nk _ _⟩
  · exact Fb.up ⟨b_into f.bk _ _, n_into f.nk _ _⟩
  · exact ⟨b_move f.bk _, n_move f.nk _⟩
  · exact Fb.up ⟨b_renew f.bk _ _, n_renew f.nk _ _⟩
  · exact Fb.up ⟨b_drop f.bk _, n_drop f.nk _⟩
  · exact f.up
theorem fb_born : Fb 0 bornB := ⟨b_born, n_born⟩
noncomputable def bookG (g : Gb) (L : List Gd) : Gb := L.foldl (fun g x => (doG g x).1) g
theorem bookG_snoc (g : Gb) (L : List Gd) (x : Gd) : bookG g (L ++ [x]) = (doG (bookG g L) x).1 := by simp [bookG]
theorem fb_book {n : Nat} {g : Gb} (f : Fb n g) (L : List Gd) : Fb (n + L.length) (bookG g L) := by
  induction L generalizing n g with
  | nil => exact f
  | cons x l ih =>
    have := ih (fb_do f x)
    rw [show n + (x :: l).length = n + 1 + l.length from by simp; omega]
    exact this
theorem fallOf_len (g : Gb) (S : Nat → Prop) : (fallOf g S).2.length ≤ g.units.length := Nat.le_trans (numb_len _) (by simp)
theorem doG_len {n : Nat} {g : Gb} (b : Bk n g) (x : Gd) : (doG g x).2.length ≤ 200 := by
  have hul := b.len
  unfold doG
  repeat' split
  all_goals try simp
  · unfold moveOf; split
    · simp
    · exact Nat.le_trans (fallOf_len g _) hul
  · unfold dropOf; repeat' split
    all_goals try simp
    exact Nat.le_trans (fallOf_len g _) hul
theorem take_snoc {α : Type} {l : List α} {i : Nat} (h : i < l.length) : l.take (i + 1) = l.take i ++ [l[i]] := take_succ_at h
end Go.Proofs.YtipokdbfdingmaaGreat

/- Keys in lists; what the document does, told. -/
namespace Go.Proofs.YtipokdbfdingmaaGreat
set_option linter.all false
open Go.Vc Go.Proofs
set_option linter.unusedSimpArgs false
set_option linter.unusedVariables false
set_option maxRecDepth 100000
set_option maxHeartbeats 4000000
attribute [local irreducible] CallW EqK
theorem warmW {f : FuncId} {l : List ByteArray} {ex : Bool} {d d' : D} {t t0 : AV} {a a' : AV} (hm : Meets Tryz.prog f [d] t0 fun av X κ => av = a ∧ X = [d'] ∧ κ = [(0, [.d])]) (ht : t.chilled (.sl true () 1 (strs l)) = t0) (ha : a.plain = true) (hd : d'.allOwn = true) (he : a.emb [] 1 = a') :
  Meets Tryz.prog f [.sl true () 1 (strs l), d] t fun av X κ => av = a' ∧ X = [.sl true () 1 (strs l), d'] ∧ κ = [(1, [.d])] := by
 have m1 := Meets.warmK (P := Tryz.prog) (f := f) (d0 := .sl true () 1 (strs l)) (Y := [d]) (t := t) (by rw [ht]; exact hm) (by rintro av X κ ⟨rfl, rfl, rfl⟩; exact ⟨ha, by simpa using hd⟩)
 refine Meets.mono m1 ?_
 rintro av X κ ⟨_, _, _, ⟨rfl, rfl, rfl⟩, rfl, rfl, rfl⟩
 exact ⟨he, rfl, rfl⟩
theorem eunit_w {n : Nat} (g : Gb) (b : Bk n g) (ex : Bool) (l : List ByteArray) (hl : l.length ≤ 100000) : Meets Tryz.prog 29 [.sl true () 1 (strs l), eBk g] (.cons (.ptr 1 [.d]) (.cons (.sub 0 [] 0 l.length ex) .nil))
  fun av X κ => av = two (unitOf g l).2 ∧ X = [.sl true () 1 (strs l), eBk (unitOf g l).1] ∧ κ = [(1, [.d])] :=
 warmW (ex := ex) (eunit_c g b ex l hl) (by simp [AV.chilled]) rfl (by simp) rfl
theorem unit_w {n : Nat} (g : Gb) (b : Bk n g) (ex : Bool) (l : List ByteArray) (h0 : 0 < l.length) (hl : l.length ≤ 100000) : Meets Tryz.prog 19 [.sl true () 1 (strs l), dBk g] (.cons (.ptr 1 [.d]) (.cons (.sub 0 [] 0 l.length ex) .nil))
  fun av X κ => av = two (unitOf g l).2 ∧ X = [.sl true () 1 (strs l), dBk (unitOf g l).1] ∧ κ = [(1, [.d])] :=
 warmW (ex := ex) (unit_c g b ex l h0 hl) (by simp [AV.chilled]) rfl (by simp) rfl
theorem erenew_w {n : Nat} (g : Gb) (b : Bk n g) (u : Int) (ex : Bool) (l : List ByteArray) (hl : l.length ≤ 100000) : Meets Tryz.prog 35 [.sl true () 1 (strs l), eBk g] (.cons (.ptr 1 [.d]) (.cons (avInt u) (.cons (.sub 0 [] 0 l.length ex) .nil)))
  fun av X κ => av = avInt (renewOf g u l).2 ∧ X = [.sl true () 1 (strs l), eBk (renewOf g u l).1] ∧ κ = [(1, [.d])] :=
 warmW (ex := ex) (erenew_c g b u ex l hl) (by simp [AV.chilled]) rfl (by simp) rfl
theorem renew_w {n : Nat} (g : Gb) (b : Bk n g) (u : Int) (ex : Bool) (l : List ByteArray) (h0 : 0 < l.length) (hl : l.length ≤ 100000) : Meets Tryz.prog 34 [.sl true () 1 (strs l), dBk g] (.cons (.ptr 1 [.d]) (.cons (avInt u) (.cons (.sub 0 [] 0 l.length ex) .nil)))
  fun av X κ => av = avInt (renewOf g u l).2 ∧ X = [.sl true () 1 (strs l), dBk (renewOf g u l).1] ∧ κ = [(1, [.d])] :=
 warmW (ex := ex) (renew_c g b u ex l h0 hl) (by simp [AV.chilled]) rfl (by simp) rfl
theorem u64_nonneg (x : Int) : 0 ≤ IntKind.u64.wrap x := by simp only [IntKind.wrap, IntKind.bits, IntKind.signed]; simp; omega
def fitN (x : Int) (n : Nat) : Nat := if n = 0 then 0 else ((IntKind.u64.wrap x).tmod n).toNat
theorem fitN_eq (x : Int) {n : Nat} (h : 0 < n) : (IntKind.u64.wrap x).tmod n = (fitN x n : Int) ∧ fitN x n < n := by
 have h1 : 0 ≤ (IntKind.u64.wrap x).tmod n := Int.tmod_nonneg _ (u64_nonneg x)
 have h2 : (IntKind.u64.wrap x).tmod n < n := Int.tmod_lt_of_pos _ (by omega)
 rw [fitN, if_neg (by omega)]
 omega
def keyL (s : ByteArray) : List ByteArray := [⟨#[97]⟩, ⟨#[98]⟩, ⟨#[99]⟩, ⟨#[100]⟩, s]
def keyOf (n : Int) (s : ByteArray) : ByteArray := (keyL s).getD (fitN n 5) ⟨#[]⟩
theorem key_ok (n : Int) (s : ByteArray) : Meets Tryz.prog 15 [] (.cons (avInt n) (.cons (avStr s) .nil)) fun av X κ => av = avStr (keyOf n s) ∧ X = [] ∧ κ = [] := by
 obtain ⟨h1, h2⟩ := fitN_eq n (n := 5) (by omega)
 have h1' : (IntKind.u64.wrap n).tmod 5 = (fitN n 5 : Int) := h1
 have w2 : IntKind.i64.wrap (fitN n 5 : Int) = fitN n 5 := IntWalk.i64_in _ (by omega)
 have hv : ((.cons (.val (.string ⟨#[97]⟩)) (.cons (.val (.string ⟨#[98]⟩)) (.cons (.val (.string ⟨#[99]⟩)) (.cons (.val (.string ⟨#[100]⟩)) (.cons (.val (.string s)) .nil))))) : D).nth (fitN n 5) = .val (.string (keyOf n s)) := by
  rw [keyOf, List.getD_eq_getElem?_getD, List.getElem?_eq_getElem (by simpa [keyL] using h2), Option.getD_some]
  exact strs_nth (l := keyL s) (by simpa [keyL] using h2)
 have i1 : (fitN n 5 : Int) < 5 := by omega
 refine fb Tryz.func15 Tryz.ntmps15 [.tmp 4] fun w0 I0 F0 hF => ?_
 repeat first|refine n1 ?_|((first|refine rg 0 [0, 1] [0, 1] [] ?_|refine rg 1 [0, 1] [4] [] ?_);simp (maxSteps := 1000000) [hF, h1', h2, hv, i1, w2])
 (try refine nr ?_);(repeat first|refine nb_ ?_|refine nl_ ?_);refine endK.o [4] [] [] ?_;simp [hF, retK, covers, mpre]
theorem ints_ok (l : List Int) (ex ex2 : Bool) (hl : l.length ≤ 100000) : Meets Tryz.prog 22 [] (.cons (.imm 1 (dInts l) ex) (.cons (.imm 1 (dInts l) ex2) .nil)) fun av X κ => av = avBool true ∧ X = [] ∧ κ = [] := by
 refine fb Tryz.func22 Tryz.ntmps22 [.tmp 4] fun w0 I0 F0 hF => ?_
 repeat first|refine n1 ?_|refine n2 ?_|refine n3 ?_|((first|refine rg 0 [0, 1] [0, 1] [] ?_|refine rg 1 [0, 1] [0, 1, 10] [] ?_|refine rg 3 [0, 1] [0, 1, 5] [] ?_|refine nc ?_);simp (maxSteps := 1000000) [hF])
 refine VS.rounds (fun m st => ∃ (i : Nat), i + m = l.length ∧ st = ⟨[(0, .imm 1 (dInts l) ex), (1, .imm 1 (dInts l) ex2), (5, avInt i)], [], [], []⟩) ⟨l.length, 0, by omega, by simp⟩ ?_
 rintro m st ⟨i, hi, rfl⟩
 repeat first|refine n1 ?_|((first|refine rg 4 [0, 1, 5] [0, 1, 5, 14] [] ?_|refine nc ?_);simp (maxSteps := 1000000) [hF])
 refine ⟨fun hlt => ?_, fun hge => ?_⟩
 ·have hn := dInts_nth hlt
  have hw : IntKind.i64.wrap ((i : Int) + 1) = (i + 1 : Nat) := by rw [IntWalk.i64_in _ (by omega)]; rfl
  repeat first|refine n1 ?_|refine n2 ?_|refine n3 ?_|refine n4 ?_|refine n5 ?_|refine n6 ?_|((first|refine rg 5 [0, 1, 5] [0, 1, 5] [] ?_|(refine dr 6 0 [0, 1, 5] [0, 1, 5, 25] [] [⟨0, 1, 131072, 5⟩, ⟨0, 32, 262144, 5⟩, ⟨3, 393216, 524288, 5⟩, ⟨4, 524288, 1048576, 6⟩, ⟨0, 2, 2097152, 5⟩, ⟨0, 32, 4194304, 5⟩, ⟨48, 6291456, 8388608, 5⟩, ⟨64, 8388608, 16777216, 6⟩, ⟨136, 17825792, 33554432, 5⟩] (.take 0 (.take 1 (.take 2 (.take 3 (.take 4 (.take 5 (.take 6 (.take 7 (.take 8 (.done)))))))))) (.run [0, 1, 2, 3, 4, 5, 6, 7, 8] (.done)) ?_;simp only [drs])|refine nc ?_);simp (maxSteps := 1000000) [hF, hn, hlt, hw])
  refine nextK.of [0, 1, 5] [] (m - 1) (by omega) (by simp [hF]) ?_
  exact ⟨i + 1, by omega, by simp⟩
 ·repeat first|refine n1 ?_|refine n7 ?_|(refine rg 8 [] [4] [] ?_;simp (maxSteps := 1000000) [hF])
  (try refine nr ?_);(repeat first|refine nb_ ?_|refine nl_ ?_);refine endK.o [4] [] [] ?_;simp [hF, retK, covers, mpre]
theorem ints_c (l : List Int) (ex ex2 : Bool) (hl : l.length ≤ 100000) : Meets Tryz.prog 22 [.sl true () 1 (dInts l), .sl true () 1 (dInts l)] (.cons (.sub 0 [] 0 l.length ex) (.cons (.sub 1 [] 0 l.length ex2) .nil))
  fun av X κ => av = avBool true ∧ X = [.sl true () 1 (dInts l), .sl true () 1 (dInts l)] ∧ κ = [] :=
 warmL (t0 := .cons (.imm 1 (dInts l) ex) (.cons (.sub 0 [] 0 l.length ex2) .nil)) (warmL (ints_ok l ex ex2 hl) (by simp [AV.chilled]) rfl (by simp) rfl) (by simp [AV.chilled]) rfl (by simp [T.allOwn]) rfl
theorem ints_n (l : List Nat) (ex ex2 : Bool) (hl : l.length ≤ 100000) : Meets Tryz.prog 22 [.sl true () 1 (dInts (nats l)), .sl true () 1 (dInts (nats l))] (.cons (.sub 0 [] 0 l.length ex) (.cons (.sub 1 [] 0 l.length ex2) .nil))
  fun av X κ => av = avBool true ∧ X = [.sl true () 1 (dInts (nats l)), .sl true () 1 (dInts (nats l))] ∧ κ = [] := by
 have h := ints_c (nats l) ex ex2 (by simpa using hl)
 rwa [nats_len] at h
theorem texts_ok (l : List ByteArray) (ex ex2 : Bool) (hl : l.length ≤ 10000000) : Meets Tryz.prog 16 [] (.cons (.imm 1 (strs l) ex) (.cons (.imm 1 (strs l) ex2) .nil)) fun av X κ => av = avBool true ∧ X = [] ∧ κ = [] := by
 refine fb Tryz.func16 Tryz.ntmps16 [.tmp 4] fun w0 I0 F0 hF => ?_
 repeat first|refine n1 ?_|refine n2 ?_|refine n3 ?_|((first|refine rg 0 [0, 1] [0, 1] [] ?_|refine rg 1 [0, 1] [0, 1, 10] [] ?_|refine rg 3 [0, 1] [0, 1, 5] [] ?_|refine nc ?_);simp (maxSteps := 1000000) [hF])
 refine VS.rounds (fun m st => ∃ (i : Nat), i + m = l.length ∧ st = ⟨[(0, .imm 1 (strs l) ex), (1, .imm 1 (strs l) ex2), (5, avInt i)], [], [], []⟩) ⟨l.length, 0, by omega, by simp⟩ ?_
 rintro m st ⟨i, hi, rfl⟩
 repeat first|refine n1 ?_|((first|refine rg 4 [0, 1, 5] [0, 1, 5, 14] [] ?_|refine nc ?_);simp (maxSteps := 1000000) [hF])
 refine ⟨fun hlt => ?_, fun hge => ?_⟩
 ·have hn := strs_nth hlt
  have hw : IntKind.i64.wrap ((i : Int) + 1) = (i + 1 : Nat) := by rw [IntWalk.i64_in _ (by omega)]; rfl
  repeat first|refine n1 ?_|refine n2 ?_|refine n3 ?_|refine n4 ?_|refine n5 ?_|refine n6 ?_|((first|refine rg 5 [0, 1, 5] [0, 1, 5] [] ?_|(refine dr 6 0 [0, 1, 5] [0, 1, 5, 25] [] [⟨0, 1, 131072, 5⟩, ⟨0, 32, 262144, 5⟩, ⟨3, 393216, 524288, 5⟩, ⟨4, 524288, 1048576, 6⟩, ⟨0, 2, 2097152, 5⟩, ⟨0, 32, 4194304, 5⟩, ⟨48, 6291456, 8388608, 5⟩, ⟨64, 8388608, 16777216, 6⟩, ⟨136, 17825792, 33554432, 5⟩] (.take 0 (.take 1 (.take 2 (.take 3 (.take 4 (.take 5 (.take 6 (.take 7 (.take 8 (.done)))))))))) (.run [0, 1, 2, 3, 4, 5, 6, 7, 8] (.done)) ?_;simp only [drs])|refine nc ?_);simp (maxSteps := 1000000) [hF, hn, hlt, hw])
  refine nextK.of [0, 1, 5] [] (m - 1) (by omega) (by simp [hF]) ?_
  exact ⟨i + 1, by omega, by simp⟩
 ·repeat first|refine n1 ?_|refine n7 ?_|(refine rg 8 [] [4] [] ?_;simp (maxSteps := 1000000) [hF])
  (try refine nr ?_);(repeat first|refine nb_ ?_|refine nl_ ?_);refine endK.o [4] [] [] ?_;simp [hF, retK, covers, mpre]
theorem texts_c (l : List ByteArray) (ex ex2 : Bool) (hl : l.length ≤ 10000000) : Meets Tryz.prog 16 [.sl true () 1 (strs l), .sl true () 1 (strs l)] (.cons (.sub 0 [] 0 l.length ex) (.cons (.sub 1 [] 0 l.length ex2) .nil))
  fun av X κ => av = avBool true ∧ X = [.sl true () 1 (strs l), .sl true () 1 (strs l)] ∧ κ = [] :=
 warmL (t0 := .cons (.imm 1 (strs l) ex) (.cons (.sub 0 [] 0 l.length ex2) .nil)) (warmL (texts_ok l ex ex2 hl) (by simp [AV.chilled]) rfl (by simp) rfl) (by simp [AV.chilled]) rfl (by simp [T.allOwn]) rfl
structure Ld where
 d : Int
 u : Int
 o : Int
 n : Int
 k : ByteArray
 ks : List ByteArray
def dLd (d : Ld) : D := .agg (.cons (.val (.int .i64 d.d)) (.cons (.val (.int .i64 d.u)) (.cons (.val (.int .i64 d.o)) (.cons (.val (.int .i64 d.n)) (.cons (.val (.string d.k)) (.cons (.sl false () 1 (strs d.ks)) .nil))))))
def dLds (l : List Ld) : D := sq (l.map dLd)
def avLd (d : Ld) : AV := .agg (.cons (avInt d.d) (.cons (avInt d.u) (.cons (avInt d.o) (.cons (avInt d.n) (.cons (avStr d.k) (.cons (.imm 1 (strs d.ks) false) .nil))))))
@[simp] theorem dLds_len (l : List Ld) : (dLds l).len = l.length := by simp [dLds]
@[simp] theorem dLds_free (l : List Ld) : (dLds l).free = true := sq_free fun x hx => by obtain ⟨n, _, rfl⟩ := List.mem_map.1 hx; simp [dLd]
theorem dLds_nth {l : List Ld} {i : Nat} (h : i < l.length) : (dLds l).nth i = .agg (.cons (.val (.int .i64 l[i].d)) (.cons (.val (.int .i64 l[i].u)) (.cons (.val (.int .i64 l[i].o)) (.cons (.val (.int .i64 l[i].n)) (.cons (.val (.string l[i].k)) (.cons (.sl false () 1 (strs l[i].ks)) .nil)))))) := by
 rw [dLds, sq_nth_lt (by simpa using h)]; simp; rfl
def keysL (d : Ld) : List ByteArray := keyOf d.n d.k :: d.ks.take 60
theorem keysL_len (d : Ld) : 0 < (keysL d).length ∧ (keysL d).length ≤ 61 := by simp [keysL]; omega
def toG (d : Ld) : Gd := ⟨d.d, d.u, d.o, keyOf d.n d.k, keysL d⟩
theorem keys_ok (d : Ld) : Meets Tryz.prog 28 [] (.cons (avLd d) .nil)
  fun av X κ => ∃ e, av = .sub 0 [] 0 (keysL d).length e ∧ X = [.sl true () 1 (strs (keysL d))] ∧ κ = [] := by
 obtain ⟨M, hM⟩ : ∃ M, M = (d.ks.take 60).length := ⟨_, rfl⟩
 have hM2 : M ≤ d.ks.length ∧ M ≤ 60 ∧ (d.ks.length ≤ 60 → M = d.ks.length) ∧ (60 < d.ks.length → M = 60) := by rw [hM, List.length_take]; omega
 have hmn : (if (60 : Int) < (d.ks.length : Int) then (60 : Int) else d.ks.length) = (M : Int) := by split <;> omega
 have hNl : (M : Int) ≤ d.ks.length := by omega
 have hN0 : 0 ≤ (M : Int) := by omega
 have hNn := hM2.1
 have hmid : (strs d.ks).mid 0 M = strs (d.ks.take 60) := by
  rw [strs_mid, List.drop_zero, hM, List.length_take]
  congr 1
  by_cases h9 : 60 ≤ d.ks.length
  ·rw [Nat.min_eq_left h9]
  ·rw [Nat.min_eq_right (by omega), List.take_of_length_le (by omega), List.take_of_length_le (by omega)]
 have hkl : (keysL d).length = 1 + min 60 d.ks.length := by simp [keysL]; omega
 have hks : strs (keysL d) = .cons (.val (.string (keyOf d.n d.k))) (strs (d.ks.take 60)) := rfl
 have hkm : ((.cons (.val (.string (keyOf d.n d.k))) (strs (d.ks.take 60)) : D)).mid 0 (1 + min 60 d.ks.length) = .cons (.val (.string (keyOf d.n d.k))) (strs (d.ks.take 60)) := by
  rw [← hks, ← hkl]; exact strs_mid_all _
 have c1 : (1 + min 60 d.ks.length) * 16 ≤ 140737488355328 := by omega
 have c2 : 1 + min 60 d.ks.length ≤ 9223372036854775807 := by omega
 refine fb Tryz.func28 Tryz.ntmps28 [.tmp 2] fun w0 I0 F0 hF => ?_
 unfold avLd
 repeat first|refine n1 ?_|((first|refine rg 0 [0] [1] [] ?_|refine rg 1 [1] [1, 3] [] ?_);simp (maxSteps := 1000000) [hF])
 refine (key_ok d.n d.k).go [] (by simp (maxSteps := 1000000) [hF]) ?_;rintro av X κ ⟨rfl, rfl, rfl⟩;simp (maxSteps := 1000000) [hF]
 by_cases hz : 0 < min 60 d.ks.length
 ·repeat first|refine n1 ?_|(refine rg 2 [1, 3] [2] [] ?_;simp (maxSteps := 1000000) [hF, hmn, hNl, hN0, hNn, hmid, c1, c2, hz])
  (try refine nr ?_);(repeat first|refine nb_ ?_|refine nl_ ?_);refine endK.o [2] [2] [] ?_;simp [hF, retK, covers, mpre, hkl, hks, hkm]
 ·have hz0 : d.ks = [] := by
   rw [← List.length_eq_zero_iff]; omega
  have hkl1 : (keysL d).length = 1 := by rw [hkl, hz0]; rfl
  have hks1 : strs (keysL d) = .cons (.val (.string (keyOf d.n d.k))) .nil := by rw [hks, hz0]; rfl
  repeat first|refine n1 ?_|(refine rg 2 [1, 3] [2] [] ?_;simp (maxSteps := 1000000) [hF, hmn, hNl, hN0, hNn, hmid, c1, c2, hz])
  refine ⟨hz0, ?_⟩
  (try refine nr ?_);(repeat first|refine nb_ ?_|refine nl_ ?_);refine endK.o [2] [1] [] ?_;simp [hF, retK, covers, mpre, hkl1, hks1]
def kA : ByteArray := ⟨#[97]⟩
def kB : ByteArray := ⟨#[98]⟩
def S1 : Gb := ⟨[⟨true, [kA], []⟩], []⟩
def S2 : Gb := ⟨[⟨true, [kA], []⟩, ⟨true, [kB], []⟩], []⟩
def S3 : Gb := ⟨[⟨true, [kA], [1]⟩, ⟨true, [kB], []⟩], []⟩
theorem s1 : unitOf bornB [kA] = (S1, 0, 0) := by kernel_rfl
theorem s2 : unitOf S1 [kB] = (S2, 1, 0) := by kernel_rfl
theorem F1 : Fb 1 S1 := by have := fb_do fb_born ⟨0, 0, 0, kA, [kA]⟩; rwa [show (doG bornB ⟨0, 0, 0, kA, [kA]⟩).1 = S1 from by simp [doG, s1]] at this
theorem F2 : Fb 2 S2 := by have := fb_do F1 ⟨0, 0, 0, kB, [kB]⟩; rwa [show (doG S1 ⟨0, 0, 0, kB, [kB]⟩).1 = S2 from by simp [doG, s2]] at this
theorem noRc {us : List Un} {S : Nat → Prop} (P : Nat → Prop) (h1 : ∀ x, S x → P x) (h2 : ∀ x, P x → ∀ y ∈ innOf us x, P y) {x : Nat} (h : Rc us S x) : P x := by
 induction h with
 | base h => exact h1 _ h
 | step _ h ih => exact h2 _ ih _ h
theorem s3 : intoOf S2 0 1 = (S3, 0) := by
 have hr : rcB S2.units (fun x => x = (1 : Int).toNat) (0 : Int).toNat = false := by
  rw [Bool.eq_false_iff, ne_eq, rcB_iff]
  intro h
  have := noRc (us := S2.units) (fun x => x = 1) (fun x hx => hx) (by rintro x rfl y hy; simp [innOf, S2] at hy) h
  exact absurd this (by decide)
 rw [intoOf, if_neg (by decide), if_neg (by decide), hr, if_neg (by decide), if_neg (by decide)]
 rfl
theorem F3 : Fb 3 S3 := by have := fb_do F2 ⟨2, 0, 1, kA, []⟩; rwa [show (doG S2 ⟨2, 0, 1, kA, []⟩).1 = S3 from by simp [doG, s3]] at this
theorem s4 : aboveOf S3.units (relyB S3.units kA) = [true, true] := by
 have h0 : relyB S3.units kA 0 := ⟨_, rfl, rfl, by simp⟩
 refine (marks_eq (M := [true, true]) rfl (fun x hx => ?_) (fun x hx => ?_) fun x hx y hy => ?_).symm
 ·have hl := getD_at' hx
  have : x = 0 ∨ x = 1 := by simp at hl; omega
  rcases this with rfl | rfl
  ·exact .base h0
  ·exact .step (.base h0) (by simp [innOf, S3])
 ·obtain ⟨u, hu, _⟩ := hx
  have hl := (List.getElem?_eq_some_iff.1 hu).1
  have : x = 0 ∨ x = 1 := by simp [S3] at hl; omega
  rcases this with rfl | rfl <;> rfl
 ·have hl := getD_at' hx
  have : x = 0 ∨ x = 1 := by simp at hl; omega
  rcases this with rfl | rfl
  ·have : y = 1 := by simpa [innOf, S3] using hy
   subst this; rfl
  ·simp [innOf, S3] at hy
theorem s5 : (moveOf S3 kA).2 = ([0, 1], 0) := by
 have hk : isKeyB kA = true := by decide
 rw [moveOf, if_neg (by rw [hk]; decide)]
 simp only [fallOf, s4]
 rfl
theorem sane_ok : Meets Tryz.prog 7 [] .nil fun av X κ => av = avBool true ∧ X = [] ∧ κ = [] := by
 have hA : strs [kA] = .cons (.val (.string ⟨#[97]⟩)) .nil := rfl
 have hB : strs [kB] = .cons (.val (.string ⟨#[98]⟩)) .nil := rfl
 have hk : (⟨#[97]⟩ : ByteArray) = kA := rfl
 have h01 : dInts (nats [0, 1]) = .cons (.val (.int .i64 0)) (.cons (.val (.int .i64 1)) .nil) := rfl
 refine fb Tryz.func7 Tryz.ntmps7 [.tmp 0] fun w0 I0 F0 hF => ?_
 repeat first|refine n1 ?_|((first|refine rg 0 [] [] [] ?_|refine rg 1 [] [1] [] ?_);simp (maxSteps := 1000000) [hF])
 refine (new_ok).go [] (by simp (maxSteps := 1000000) [hF]) ?_;rintro av X κ ⟨rfl, rfl, rfl⟩;simp (maxSteps := 1000000) [hF]
 repeat first|refine n1 ?_|refine n2 ?_|((first|refine rg 2 [1] [1, 7] [] ?_|refine rg 4 [1] [1] [] ?_|refine nc ?_);simp (maxSteps := 1000000) [hF])
 refine (unit_w bornB fb_born.bk true [kA] (by simp) (by simp)).go [(1, []), (0, [])] (by simp (maxSteps := 1000000) [hF, s1, dBk, hA]) ?_;rintro av X κ ⟨rfl, rfl, rfl⟩;simp (maxSteps := 1000000) [hF, s1, dBk, hA]
 repeat first|refine n1 ?_|(refine rg 5 [1] [1] [] ?_;simp (maxSteps := 1000000) [hF])
 refine (unit_w S1 F1.bk true [kB] (by simp) (by simp)).go [(2, []), (0, [])] (by simp (maxSteps := 1000000) [hF, s2, dBk, hB]) ?_;rintro av X κ ⟨rfl, rfl, rfl⟩;simp (maxSteps := 1000000) [hF, s2, dBk, hB]
 repeat first|refine n1 ?_|(refine rg 6 [1] [1, 2] [] ?_;simp (maxSteps := 1000000) [hF])
 refine (into_c S2 F2.bk 0 1).go [(0, [])] (by simp (maxSteps := 1000000) [hF, s3, dBk]) ?_;rintro av X κ ⟨rfl, rfl, rfl⟩;simp (maxSteps := 1000000) [hF, s3, dBk]
 repeat first|refine n1 ?_|(refine rg 7 [1, 2] [2, 3, 4] [] ?_;simp (maxSteps := 1000000) [hF])
 refine (move_c S3 F3.bk (by omega) kA).go [(0, [])] (by simp (maxSteps := 1000000) [hF, s5, dBk, hk]) ?_;rintro av X κ ⟨rfl, rfl, rfl⟩;simp (maxSteps := 1000000) [hF, s5, dBk, hk]
 repeat first|refine n1 ?_|(refine rg 8 [2, 3, 4] [0] [(2, 23), (6, 27)] ?_;simp (maxSteps := 1000000) [hF])
 refine (ints_n [0, 1] false true (by simp)).go [(3, []), (4, [])] (by simp (maxSteps := 1000000) [hF, h01]) ?_;rintro av X κ ⟨rfl, rfl, rfl⟩;simp (maxSteps := 1000000) [hF, h01]
 (try refine nr ?_);(repeat first|refine nb_ ?_|refine nl_ ?_);refine endK.o [0] [] [] ?_;simp [hF, retK, covers, mpre]
theorem doG_0 {g : Gb} {x : Gd} (h : x.d = 0) : (doG g x).1 = (unitOf g x.l).1 := by simp [doG, h]
theorem doG_1 {g : Gb} {x : Gd} (h : x.d = 1) : (doG g x).1 = (relyOf g x.u x.k).1 := by simp [doG, h]
theorem doG_2 {g : Gb} {x : Gd} (h : x.d = 2) : (doG g x).1 = (intoOf g x.u x.o).1 := by simp [doG, h]
theorem doG_3 {g : Gb} {x : Gd} (h : x.d = 3) : (doG g x).1 = (moveOf g x.k).1 := by simp [doG, h]
theorem doG_4 {g : Gb} {x : Gd} (h : x.d = 4) : (doG g x).1 = (renewOf g x.u x.l).1 := by simp [doG, h]
theorem doG_5 {g : Gb} {x : Gd} (h : x.d = 5) : (doG g x).1 = (dropOf g x.u).1 := by simp [doG, h]
theorem doG_6 {g : Gb} {x : Gd} (h : ¬ x.d = 0 ∧ ¬ x.d = 1 ∧ ¬ x.d = 2 ∧ ¬ x.d = 3 ∧ ¬ x.d = 4 ∧ ¬ x.d = 5) : (doG g x).1 = g := by simp [doG, h]
theorem move_len {n : Nat} {g : Gb} (b : Bk n g) (k : ByteArray) : (moveOf g k).2.1.length ≤ 200 := by have := doG_len b ⟨3, 0, 0, k, []⟩; simpa [doG] using this
theorem drop_len {n : Nat} {g : Gb} (b : Bk n g) (u : Int) : (dropOf g u).2.1.length ≤ 200 := by have := doG_len b ⟨5, u, 0, ⟨#[]⟩, []⟩; simpa [doG] using this
theorem does_ok {n : Nat} {g : Gb} (f : Fb n g) (hn : n ≤ 1000000) (d : Ld) : Meets Tryz.prog 10 [dBk g, eBk g] (.cons (.ptr 0 [.d]) (.cons (.ptr 1 [.d]) (.cons (avLd d) .nil)))
  fun av X κ => av = avBool true ∧ X = [dBk (doG g (toG d)).1, eBk (doG g (toG d)).1] ∧ κ = [(0, [.d]), (1, [.d])] := by
 have b := f.bk
 have hkl := keysL_len d
 have hdv : avLd d = .agg (.cons (avInt d.d) (.cons (avInt d.u) (.cons (avInt d.o) (.cons (avInt d.n) (.cons (avStr d.k) (.cons (.imm 1 (strs d.ks) false) .nil)))))) := rfl
 have hml := move_len b (keyOf d.n d.k)
 have hdl := drop_len b d.u
 have hG : toG d = ⟨d.d, d.u, d.o, keyOf d.n d.k, keysL d⟩ := rfl
 by_cases h0 : d.d = 0
 ·have hdo : (doG g (toG d)).1 = (unitOf g (keysL d)).1 := doG_0 h0
  refine fb Tryz.func10 Tryz.ntmps10 [.tmp 6] fun w0 I0 F0 hF => ?_
  repeat first|refine n1 ?_|((first|refine rg 0 [0, 1, 2] [0, 1, 5] [] ?_|refine rg 1 [0, 1, 5] [0, 1, 5, 7] [] ?_);simp (maxSteps := 1000000) [hF, hdv])
  refine (key_ok d.n d.k).go [] (by simp (maxSteps := 1000000) [hF, hdv]) ?_;rintro av X κ ⟨rfl, rfl, rfl⟩;simp (maxSteps := 1000000) [hF, hdv]
  repeat first|refine n1 ?_|refine n3 ?_|((first|refine rg 2 [0, 1, 5, 7] [0, 1, 5, 7, 26] [] ?_|refine rg 3 [0, 1, 5, 7, 26] [0, 1, 5, 7, 26, 27] [] ?_|refine rg 4 [0, 1, 5] [1, 5, 8, 9] [] ?_|refine nc ?_);simp (maxSteps := 1000000) [hF, h0])
  refine (keys_ok d).go [] (by simp (maxSteps := 1000000) [hF, hdv, h0]) ?_;rintro av X κ ⟨e1, rfl, rfl, rfl⟩;simp (maxSteps := 1000000) [hF, hdv, h0]
  refine (unit_w g b e1 (keysL d) hkl.1 (by omega)).go [(3, []), (0, [])] (by simp (maxSteps := 1000000) [hF, dBk]) ?_;rintro av X κ ⟨rfl, rfl, rfl⟩;simp (maxSteps := 1000000) [hF, dBk]
  repeat first|refine n1 ?_|(refine rg 5 [1, 5, 8, 9] [8, 9, 10, 11] [] ?_;simp (maxSteps := 1000000) [hF])
  refine (keys_ok d).go [] (by simp (maxSteps := 1000000) [hF, hdv, h0]) ?_;rintro av X κ ⟨e2, rfl, rfl, rfl⟩;simp (maxSteps := 1000000) [hF, hdv, h0]
  refine (eunit_w g b e2 (keysL d) (by omega)).go [(4, []), (1, [])] (by simp (maxSteps := 1000000) [hF, eBk]) ?_;rintro av X κ ⟨rfl, rfl, rfl⟩;simp (maxSteps := 1000000) [hF, eBk]
  repeat first|refine n1 ?_|(refine rg 6 [8, 9, 10, 11] [6] [(3, 46)] ?_;simp (maxSteps := 1000000) [hF])
  refine VS.widen [(0, [.d]), (1, [.d])] (by simp [covers, mpre]) ?_
  (try refine nr ?_);(repeat first|refine nb_ ?_|refine nl_ ?_);refine endK.o [6] [0, 1] [(0, [.d]), (1, [.d])] ?_;simp [hF, retK, covers, mpre, dBk, eBk, hdo]
 by_cases h1 : d.d = 1
 ·have hdo : (doG g (toG d)).1 = (relyOf g d.u (keyOf d.n d.k)).1 := doG_1 h1
  refine fb Tryz.func10 Tryz.ntmps10 [.tmp 6] fun w0 I0 F0 hF => ?_
  repeat first|refine n1 ?_|((first|refine rg 0 [0, 1, 2] [0, 1, 5] [] ?_|refine rg 1 [0, 1, 5] [0, 1, 5, 7] [] ?_);simp (maxSteps := 1000000) [hF, hdv])
  refine (key_ok d.n d.k).go [] (by simp (maxSteps := 1000000) [hF, hdv]) ?_;rintro av X κ ⟨rfl, rfl, rfl⟩;simp (maxSteps := 1000000) [hF, hdv]
  repeat first|refine n1 ?_|refine n3 ?_|((first|refine rg 2 [0, 1, 5, 7] [0, 1, 5, 7, 26] [] ?_|refine rg 3 [0, 1, 5, 7, 26] [0, 1, 5, 7, 26, 27] [] ?_|refine rg 7 [0, 1, 5, 7, 26] [0, 1, 5, 7, 26, 51] [] ?_|(refine dr 8 0 [0, 1, 5, 7] [6] [] [⟨0, 1, 9007199254740992, 5⟩, ⟨0, 32, 18014398509481984, 5⟩, ⟨2, 18014398509481984, 36028797018963968, 6⟩, ⟨0, 128, 72057594037927936, 5⟩, ⟨13, 117093590311632896, 144115188075855872, 0⟩, ⟨0, 2, 288230376151711744, 5⟩, ⟨0, 32, 576460752303423488, 5⟩, ⟨64, 576460752303423488, 1152921504606846976, 6⟩, ⟨0, 128, 2305843009213693952, 5⟩, ⟨432, 3746994889972252672, 4611686018427387904, 0⟩, ⟨528, 4755801206503243776, 9223372036854775808, 5⟩, ⟨2047, 9223372036854775808, 64, 5⟩] (.take 0 (.take 1 (.take 2 (.take 3 (.take 5 (.take 6 (.take 8 (.fork (.alt 4 (.take 7 (.fork (.alt 9 (.take 10 (.take 11 (.done))) (.nil)))) (.alt 7 (.fork (.alt 4 (.fork (.alt 9 (.take 10 (.take 11 (.done))) (.nil))) (.nil))) (.nil))))))))))) (.run [0, 1, 2, 3, 5, 6, 8] (.both (.run [4, 7, 9, 10, 11] (.done)) (.run [7, 4, 9, 10, 11] (.done)))) ?_;simp only [drs])|refine nc ?_);simp (maxSteps := 1000000) [hF, h0, h1])
  (repeat' with_reducible refine And.intro ?_ ?_)
  all_goals (refine (rely_c g b d.u (keyOf d.n d.k)).go [(0, [])] (by simp (maxSteps := 1000000) [hF, dBk]) ?_;rintro av X κ ⟨rfl, rfl, rfl⟩;simp (maxSteps := 1000000) [hF, dBk])
  (repeat' with_reducible refine And.intro ?_ ?_)
  all_goals (refine (erely_c g b d.u (keyOf d.n d.k)).go [(1, [])] (by simp (maxSteps := 1000000) [hF, eBk]) ?_;rintro av X κ ⟨rfl, rfl, rfl⟩;simp (maxSteps := 1000000) [hF, eBk])
  all_goals (refine VS.widen [(0, [.d]), (1, [.d])] (by simp [covers, mpre]) ?_)
  all_goals ((try refine nr ?_);(repeat first|refine nb_ ?_|refine nl_ ?_);refine endK.o [6] [0, 1] [(0, [.d]), (1, [.d])] ?_;simp [hF, retK, covers, mpre, dBk, eBk, hdo])
 by_cases h2 : d.d = 2
 ·have hdo : (doG g (toG d)).1 = (intoOf g d.u d.o).1 := doG_2 h2
  refine fb Tryz.func10 Tryz.ntmps10 [.tmp 6] fun w0 I0 F0 hF => ?_
  repeat first|refine n1 ?_|((first|refine rg 0 [0, 1, 2] [0, 1, 5] [] ?_|refine rg 1 [0, 1, 5] [0, 1, 5, 7] [] ?_);simp (maxSteps := 1000000) [hF, hdv])
  refine (key_ok d.n d.k).go [] (by simp (maxSteps := 1000000) [hF, hdv]) ?_;rintro av X κ ⟨rfl, rfl, rfl⟩;simp (maxSteps := 1000000) [hF, hdv]
  repeat first|refine n1 ?_|refine n3 ?_|((first|refine rg 2 [0, 1, 5, 7] [0, 1, 5, 7, 26] [] ?_|refine rg 3 [0, 1, 5, 7, 26] [0, 1, 5, 7, 26, 27] [] ?_|refine rg 7 [0, 1, 5, 7, 26] [0, 1, 5, 7, 26, 51] [] ?_|refine rg 9 [0, 1, 5, 7, 26] [0, 1, 5, 7, 26, 64] [] ?_|(refine dr 10 0 [0, 1, 5] [6] [] [⟨0, 1, 73786976294838206464, 5⟩, ⟨0, 32, 147573952589676412928, 5⟩, ⟨2, 147573952589676412928, 295147905179352825856, 6⟩, ⟨0, 32, 590295810358705651712, 5⟩, ⟨8, 590295810358705651712, 1180591620717411303424, 6⟩, ⟨21, 1549526502191602335744, 2361183241434822606848, 0⟩, ⟨0, 2, 4722366482869645213696, 5⟩, ⟨0, 32, 9444732965739290427392, 5⟩, ⟨128, 9444732965739290427392, 18889465931478580854784, 6⟩, ⟨0, 32, 37778931862957161709568, 5⟩, ⟨512, 37778931862957161709568, 75557863725914323419136, 6⟩, ⟨1376, 99169696140262549487616, 151115727451828646838272, 0⟩, ⟨2080, 153476910693263469445120, 302231454903657293676544, 5⟩, ⟨8191, 302231454903657293676544, 64, 5⟩] (.take 0 (.take 1 (.take 2 (.take 3 (.take 4 (.take 6 (.take 7 (.take 9 (.fork (.alt 5 (.take 8 (.take 10 (.fork (.alt 11 (.take 12 (.take 13 (.done))) (.nil))))) (.alt 8 (.fork (.alt 5 (.take 10 (.fork (.alt 11 (.take 12 (.take 13 (.done))) (.nil)))) (.alt 10 (.fork (.alt 5 (.fork (.alt 11 (.take 12 (.take 13 (.done))) (.nil))) (.nil))) (.nil)))) (.alt 10 (.fork (.alt 5 (.take 8 (.fork (.alt 11 (.take 12 (.take 13 (.done))) (.nil)))) (.alt 8 (.fork (.alt 5 (.fork (.alt 11 (.take 12 (.take 13 (.done))) (.nil))) (.nil))) (.nil)))) (.nil))))))))))))) (.run [0, 1, 2, 3, 4, 6, 7, 9] (.both (.run [5, 8, 10, 11, 12, 13] (.done)) (.both (.run [8] (.both (.run [5, 10, 11, 12, 13] (.done)) (.run [10, 5, 11, 12, 13] (.done)))) (.run [10] (.both (.run [5, 8, 11, 12, 13] (.done)) (.run [8, 5, 11, 12, 13] (.done))))))) ?_;simp only [drs])|refine nc ?_);simp (maxSteps := 1000000) [hF, h0, h1, h2])
  (repeat' with_reducible refine And.intro ?_ ?_)
  all_goals (refine (into_c g b d.u d.o).go [(0, [])] (by simp (maxSteps := 1000000) [hF, dBk]) ?_;rintro av X κ ⟨rfl, rfl, rfl⟩;simp (maxSteps := 1000000) [hF, dBk])
  (repeat' with_reducible refine And.intro ?_ ?_)
  all_goals (refine (einto_c g b d.u d.o).go [(1, [])] (by simp (maxSteps := 1000000) [hF, eBk]) ?_;rintro av X κ ⟨rfl, rfl, rfl⟩;simp (maxSteps := 1000000) [hF, eBk])
  all_goals (refine VS.widen [(0, [.d]), (1, [.d])] (by simp [covers, mpre]) ?_)
  all_goals ((try refine nr ?_);(repeat first|refine nb_ ?_|refine nl_ ?_);refine endK.o [6] [0, 1] [(0, [.d]), (1, [.d])] ?_;simp [hF, retK, covers, mpre, dBk, eBk, hdo])
 by_cases h3 : d.d = 3
 ·have hdo : (doG g (toG d)).1 = (moveOf g (keyOf d.n d.k)).1 := doG_3 h3
  refine fb Tryz.func10 Tryz.ntmps10 [.tmp 6] fun w0 I0 F0 hF => ?_
  repeat first|refine n1 ?_|((first|refine rg 0 [0, 1, 2] [0, 1, 5] [] ?_|refine rg 1 [0, 1, 5] [0, 1, 5, 7] [] ?_);simp (maxSteps := 1000000) [hF, hdv])
  refine (key_ok d.n d.k).go [] (by simp (maxSteps := 1000000) [hF, hdv]) ?_;rintro av X κ ⟨rfl, rfl, rfl⟩;simp (maxSteps := 1000000) [hF, hdv]
  repeat first|refine n1 ?_|refine n3 ?_|((first|refine rg 2 [0, 1, 5, 7] [0, 1, 5, 7, 26] [] ?_|refine rg 3 [0, 1, 5, 7, 26] [0, 1, 5, 7, 26, 27] [] ?_|refine rg 7 [0, 1, 5, 7, 26] [0, 1, 5, 7, 26, 51] [] ?_|refine rg 9 [0, 1, 5, 7, 26] [0, 1, 5, 7, 26, 64] [] ?_|refine rg 11 [0, 1, 5, 7, 26] [0, 1, 5, 7, 26, 79] [] ?_|refine rg 12 [0, 1, 7] [1, 7, 12, 13] [] ?_|refine nc ?_);simp (maxSteps := 1000000) [hF, h0, h1, h2, h3])
  refine (move_c g b hn (keyOf d.n d.k)).go [(0, [])] (by simp (maxSteps := 1000000) [hF, dBk]) ?_;rintro av X κ ⟨rfl, rfl, rfl⟩;simp (maxSteps := 1000000) [hF, dBk]
  repeat first|refine n1 ?_|(refine rg 13 [1, 7, 12, 13] [12, 13, 14, 15] [] ?_;simp (maxSteps := 1000000) [hF])
  refine (emove_c g f hn (keyOf d.n d.k)).go [(1, [])] (by simp (maxSteps := 1000000) [hF, eBk]) ?_;rintro av X κ ⟨rfl, rfl, rfl⟩;simp (maxSteps := 1000000) [hF, eBk]
  repeat first|refine n1 ?_|(refine rg 14 [12, 13, 14, 15] [6] [(3, 96)] ?_;simp (maxSteps := 1000000) [hF])
  refine (ints_n (moveOf g (keyOf d.n d.k)).2.1 false false (by omega)).go [(3, []), (4, [])] (by simp (maxSteps := 1000000) [hF]) ?_;rintro av X κ ⟨rfl, rfl, rfl⟩;simp (maxSteps := 1000000) [hF]
  refine VS.widen [(0, [.d]), (1, [.d])] (by simp [covers, mpre]) ?_
  (try refine nr ?_);(repeat first|refine nb_ ?_|refine nl_ ?_);refine endK.o [6] [0, 1] [(0, [.d]), (1, [.d])] ?_;simp [hF, retK, covers, mpre, dBk, eBk, hdo]
 by_cases h4 : d.d = 4
 ·have hdo : (doG g (toG d)).1 = (renewOf g d.u (keysL d)).1 := doG_4 h4
  refine fb Tryz.func10 Tryz.ntmps10 [.tmp 6] fun w0 I0 F0 hF => ?_
  repeat first|refine n1 ?_|((first|refine rg 0 [0, 1, 2] [0, 1, 5] [] ?_|refine rg 1 [0, 1, 5] [0, 1, 5, 7] [] ?_);simp (maxSteps := 1000000) [hF, hdv])
  refine (key_ok d.n d.k).go [] (by simp (maxSteps := 1000000) [hF, hdv]) ?_;rintro av X κ ⟨rfl, rfl, rfl⟩;simp (maxSteps := 1000000) [hF, hdv]
  repeat first|refine n1 ?_|refine n3 ?_|((first|refine rg 2 [0, 1, 5, 7] [0, 1, 5, 7, 26] [] ?_|refine rg 3 [0, 1, 5, 7, 26] [0, 1, 5, 7, 26, 27] [] ?_|refine rg 7 [0, 1, 5, 7, 26] [0, 1, 5, 7, 26, 51] [] ?_|refine rg 9 [0, 1, 5, 7, 26] [0, 1, 5, 7, 26, 64] [] ?_|refine rg 11 [0, 1, 5, 7, 26] [0, 1, 5, 7, 26, 79] [] ?_|refine rg 15 [0, 1, 5, 26] [0, 1, 5, 26, 101] [] ?_|(refine dr 16 1040 [0, 1, 5] [6] [] [⟨0, 1, 10141204801825835211973625643008, 5⟩, ⟨0, 32, 20282409603651670423947251286016, 5⟩, ⟨2, 20282409603651670423947251286016, 40564819207303340847894502572032, 6⟩, ⟨0, 32, 81129638414606681695789005144064, 6⟩, ⟨8, 81129638414606681695789005144064, 162259276829213363391578010288128, 0⟩, ⟨21, 212965300838342539451446138503168, 324518553658426726783156020576256, 0⟩, ⟨0, 2, 649037107316853453566312041152512, 5⟩, ⟨0, 32, 1298074214633706907132624082305024, 5⟩, ⟨128, 1298074214633706907132624082305024, 2596148429267413814265248164610048, 6⟩, ⟨0, 32, 5192296858534827628530496329220096, 6⟩, ⟨544, 5192296858534827628530496329220096, 10384593717069655257060992658440192, 0⟩, ⟨1344, 13629779253653922524892552864202752, 20769187434139310514121985316880384, 0⟩, ⟨2080, 21093705987797737240905141337456640, 41538374868278621028243970633760768, 5⟩, ⟨8191, 41538374868278621028243970633760768, 64, 5⟩] (.take 0 (.take 1 (.take 2 (.take 3 (.take 6 (.take 7 (.fork (.alt 4 (.fork (.alt 5 (.take 8 (.take 9 (.fork (.alt 10 (.fork (.alt 11 (.take 12 (.take 13 (.done))) (.nil))) (.nil))))) (.alt 8 (.fork (.alt 5 (.take 9 (.fork (.alt 10 (.fork (.alt 11 (.take 12 (.take 13 (.done))) (.nil))) (.nil)))) (.alt 9 (.fork (.alt 5 (.fork (.alt 10 (.fork (.alt 11 (.take 12 (.take 13 (.done))) (.nil))) (.nil))) (.nil))) (.nil)))) (.alt 9 (.fork (.alt 5 (.take 8 (.fork (.alt 10 (.fork (.alt 11 (.take 12 (.take 13 (.done))) (.nil))) (.nil)))) (.alt 8 (.fork (.alt 5 (.fork (.alt 10 (.fork (.alt 11 (.take 12 (.take 13 (.done))) (.nil))) (.nil))) (.nil))) (.nil)))) (.nil))))) (.alt 8 (.fork (.alt 4 (.fork (.alt 5 (.take 9 (.fork (.alt 10 (.fork (.alt 11 (.take 12 (.take 13 (.done))) (.nil))) (.nil)))) (.alt 9 (.fork (.alt 5 (.fork (.alt 10 (.fork (.alt 11 (.take 12 (.take 13 (.done))) (.nil))) (.nil))) (.nil))) (.nil)))) (.alt 9 (.fork (.alt 4 (.fork (.alt 5 (.fork (.alt 10 (.fork (.alt 11 (.take 12 (.take 13 (.done))) (.nil))) (.nil))) (.nil))) (.nil))) (.nil)))) (.alt 9 (.fork (.alt 4 (.fork (.alt 5 (.take 8 (.fork (.alt 10 (.fork (.alt 11 (.take 12 (.take 13 (.done))) (.nil))) (.nil)))) (.alt 8 (.fork (.alt 5 (.fork (.alt 10 (.fork (.alt 11 (.take 12 (.take 13 (.done))) (.nil))) (.nil))) (.nil))) (.nil)))) (.alt 8 (.fork (.alt 4 (.fork (.alt 5 (.fork (.alt 10 (.fork (.alt 11 (.take 12 (.take 13 (.done))) (.nil))) (.nil))) (.nil))) (.nil))) (.nil)))) (.nil))))))))))) (.run [0, 1, 2, 3, 6, 7] (.both (.chk 4 (.run [4] (.both (.run [5, 8, 9] (.chk 10 (.run [10, 11, 12, 13] (.done)))) (.both (.run [8] (.both (.run [5, 9] (.chk 10 (.run [10, 11, 12, 13] (.done)))) (.run [9, 5] (.chk 10 (.run [10, 11, 12, 13] (.done)))))) (.run [9] (.both (.run [5, 8] (.chk 10 (.run [10, 11, 12, 13] (.done)))) (.run [8, 5] (.chk 10 (.run [10, 11, 12, 13] (.done)))))))))) (.both (.run [8] (.both (.chk 4 (.run [4] (.both (.run [5, 9] (.chk 10 (.run [10, 11, 12, 13] (.done)))) (.run [9, 5] (.chk 10 (.run [10, 11, 12, 13] (.done))))))) (.run [9] (.chk 4 (.run [4, 5] (.chk 10 (.run [10, 11, 12, 13] (.done)))))))) (.run [9] (.both (.chk 4 (.run [4] (.both (.run [5, 8] (.chk 10 (.run [10, 11, 12, 13] (.done)))) (.run [8, 5] (.chk 10 (.run [10, 11, 12, 13] (.done))))))) (.run [8] (.chk 4 (.run [4, 5] (.chk 10 (.run [10, 11, 12, 13] (.done))))))))))) ?_;simp only [drs])|refine nc ?_);simp (maxSteps := 1000000) [hF, h0, h1, h2, h3, h4])
  (repeat' with_reducible refine And.intro ?_ ?_)
  all_goals (refine (keys_ok d).go [] (by simp (maxSteps := 1000000) [hF, hdv, h4]) ?_;rintro av X κ ⟨e1, rfl, rfl, rfl⟩;simp (maxSteps := 1000000) [hF, hdv, h4])
  (repeat' with_reducible refine And.intro ?_ ?_)
  all_goals (refine (renew_w g b d.u e1 (keysL d) hkl.1 (by omega)).go [(3, []), (0, [])] (by simp (maxSteps := 1000000) [hF, dBk]) ?_;rintro av X κ ⟨rfl, rfl, rfl⟩;simp (maxSteps := 1000000) [hF, dBk])
  (repeat' with_reducible refine And.intro ?_ ?_)
  all_goals (refine (keys_ok d).go [] (by simp (maxSteps := 1000000) [hF, hdv, h4]) ?_;rintro av X κ ⟨e2, rfl, rfl, rfl⟩;simp (maxSteps := 1000000) [hF, hdv, h4])
  (repeat' with_reducible refine And.intro ?_ ?_)
  all_goals (refine (erenew_w g b d.u e2 (keysL d) (by omega)).go [(4, []), (1, [])] (by simp (maxSteps := 1000000) [hF, eBk]) ?_;rintro av X κ ⟨rfl, rfl, rfl⟩;simp (maxSteps := 1000000) [hF, eBk])
  all_goals (refine VS.widen [(0, [.d]), (1, [.d])] (by simp [covers, mpre]) ?_)
  all_goals ((try refine nr ?_);(repeat first|refine nb_ ?_|refine nl_ ?_);refine endK.o [6] [0, 1] [(0, [.d]), (1, [.d])] ?_;simp [hF, retK, covers, mpre, dBk, eBk, hdo])
 by_cases h5 : d.d = 5
 ·have hdo : (doG g (toG d)).1 = (dropOf g d.u).1 := doG_5 h5
  refine fb Tryz.func10 Tryz.ntmps10 [.tmp 6] fun w0 I0 F0 hF => ?_
  repeat first|refine n1 ?_|((first|refine rg 0 [0, 1, 2] [0, 1, 5] [] ?_|refine rg 1 [0, 1, 5] [0, 1, 5, 7] [] ?_);simp (maxSteps := 1000000) [hF, hdv])
  refine (key_ok d.n d.k).go [] (by simp (maxSteps := 1000000) [hF, hdv]) ?_;rintro av X κ ⟨rfl, rfl, rfl⟩;simp (maxSteps := 1000000) [hF, hdv]
  repeat first|refine n1 ?_|refine n3 ?_|((first|refine rg 2 [0, 1, 5, 7] [0, 1, 5, 7, 26] [] ?_|refine rg 3 [0, 1, 5, 7, 26] [0, 1, 5, 7, 26, 27] [] ?_|refine rg 7 [0, 1, 5, 7, 26] [0, 1, 5, 7, 26, 51] [] ?_|refine rg 9 [0, 1, 5, 7, 26] [0, 1, 5, 7, 26, 64] [] ?_|refine rg 11 [0, 1, 5, 7, 26] [0, 1, 5, 7, 26, 79] [] ?_|refine rg 15 [0, 1, 5, 26] [0, 1, 5, 26, 101] [] ?_|refine rg 17 [0, 1, 5, 26] [0, 1, 5, 116] [] ?_|refine rg 18 [0, 1, 5] [1, 5, 16, 17] [] ?_|refine nc ?_);simp (maxSteps := 1000000) [hF, h0, h1, h2, h3, h4, h5])
  refine (drop_c g b d.u).go [(0, [])] (by simp (maxSteps := 1000000) [hF, dBk]) ?_;rintro av X κ ⟨rfl, rfl, rfl⟩;simp (maxSteps := 1000000) [hF, dBk]
  repeat first|refine n1 ?_|(refine rg 19 [1, 5, 16, 17] [16, 17, 18, 19] [] ?_;simp (maxSteps := 1000000) [hF])
  refine (edrop_c g b d.u).go [(1, [])] (by simp (maxSteps := 1000000) [hF, eBk]) ?_;rintro av X κ ⟨rfl, rfl, rfl⟩;simp (maxSteps := 1000000) [hF, eBk]
  repeat first|refine n1 ?_|(refine rg 20 [16, 17, 18, 19] [6] [(3, 135)] ?_;simp (maxSteps := 1000000) [hF])
  refine (ints_n (dropOf g d.u).2.1 false false (by omega)).go [(3, []), (4, [])] (by simp (maxSteps := 1000000) [hF]) ?_;rintro av X κ ⟨rfl, rfl, rfl⟩;simp (maxSteps := 1000000) [hF]
  refine VS.widen [(0, [.d]), (1, [.d])] (by simp [covers, mpre]) ?_
  (try refine nr ?_);(repeat first|refine nb_ ?_|refine nl_ ?_);refine endK.o [6] [0, 1] [(0, [.d]), (1, [.d])] ?_;simp [hF, retK, covers, mpre, dBk, eBk, hdo]
 have hdo : (doG g (toG d)).1 = g := doG_6 ⟨h0, h1, h2, h3, h4, h5⟩
 refine fb Tryz.func10 Tryz.ntmps10 [.tmp 6] fun w0 I0 F0 hF => ?_
 repeat first|refine n1 ?_|((first|refine rg 0 [0, 1, 2] [0, 1, 5] [] ?_|refine rg 1 [0, 1, 5] [0, 1, 5, 7] [] ?_);simp (maxSteps := 1000000) [hF, hdv])
 refine (key_ok d.n d.k).go [] (by simp (maxSteps := 1000000) [hF, hdv]) ?_;rintro av X κ ⟨rfl, rfl, rfl⟩;simp (maxSteps := 1000000) [hF, hdv]
 repeat first|refine n1 ?_|refine n2 ?_|refine n3 ?_|refine n4 ?_|((first|refine rg 2 [0, 1, 5, 7] [0, 1, 5, 7, 26] [] ?_|refine rg 3 [0, 1, 5, 7, 26] [0, 1, 5, 7, 26, 27] [] ?_|refine rg 7 [0, 1, 5, 7, 26] [0, 1, 5, 7, 26, 51] [] ?_|refine rg 9 [0, 1, 5, 7, 26] [0, 1, 5, 7, 26, 64] [] ?_|refine rg 11 [0, 1, 5, 7, 26] [0, 1, 5, 7, 26, 79] [] ?_|refine rg 15 [0, 1, 5, 26] [0, 1, 5, 26, 101] [] ?_|refine rg 17 [0, 1, 5, 26] [0, 1, 5, 116] [] ?_|refine rg 21 [] [6] [] ?_|refine nc ?_);simp (maxSteps := 1000000) [hF, h0, h1, h2, h3, h4, h5])
 refine VS.widen [(0, [.d]), (1, [.d])] (by simp [covers, mpre]) ?_
 (try refine nr ?_);(repeat first|refine nb_ ?_|refine nl_ ?_);refine endK.o [6] [0, 1] [(0, [.d]), (1, [.d])] ?_;simp [hF, retK, covers, mpre, dBk, eBk, hdo]
theorem keysQ_len {n : Nat} {g : Gb} (b : Bk n g) (u : Int) : (keysQ g u).1.length ≤ 30 := by
 unfold keysQ
 split
 ·simp
 ·rename_i h
  obtain ⟨i, hi, rfl, hu, _⟩ := unOf_mem (g := g) (u := u) (by simpa using h)
  simp only [hu]
  exact (b.asc _ (List.getElem_mem hi)).2
theorem allQ_len {n : Nat} {g : Gb} (b : Bk n g) (u : Int) : (allQ g u).1.length ≤ 6000 := by
 unfold allQ
 split
 ·simp
 ·show (allKOf g u.toNat).length ≤ 6000
  rw [← keysUp_all]
  have h1 := keysS_len (keysUp g u.toNat g.units.length)
  have h2 := keysUp_len b u.toNat g.units.length (Nat.le_refl _)
  have := b.len
  omega
theorem whoQ_len {n : Nat} {g : Gb} (b : Bk n g) (k : ByteArray) : (whoQ g k).1.length ≤ 200 := by
 unfold whoQ
 split
 ·simp
 ·exact Nat.le_trans (numb_len _) (by simpa using b.len)
theorem unit_i {n : Nat} (g : Gb) (f : Fb n g) (u : Int) : Meets Tryz.prog 13 [dBk g] (.cons (.ptr 0 [.d]) (.cons (avE g) (.cons (avInt u) .nil))) fun av X κ => av = avBool true ∧ X = [dBk g] ∧ κ = [] := by
 have b := f.bk
 have l1 := keysQ_len b u
 have l2 := allQ_len b u
 refine fb Tryz.func13 Tryz.ntmps13 [.tmp 6] fun w0 I0 F0 hF => ?_
 repeat first|refine n1 ?_|((first|refine rg 0 [0, 1, 2] [0, 1, 2] [] ?_|refine rg 1 [0, 1, 2] [0, 1, 2, 7, 8] [] ?_);simp (maxSteps := 1000000) [hF])
 refine (up_c g u).go [(0, [])] (by simp (maxSteps := 1000000) [hF, dBk]) ?_;rintro av X κ ⟨rfl, rfl, rfl⟩;simp (maxSteps := 1000000) [hF, dBk]
 repeat first|refine n1 ?_|(refine rg 2 [0, 1, 2, 7, 8] [0, 1, 2, 7, 8, 9, 10] [] ?_;simp (maxSteps := 1000000) [hF])
 refine (eup_ok g u).go [] (by simp (maxSteps := 1000000) [hF, dBk]) ?_;rintro av X κ ⟨rfl, rfl, rfl⟩;simp (maxSteps := 1000000) [hF, dBk]
 repeat first|refine n1 ?_|(refine rg 3 [0, 1, 2, 7, 8, 9, 10] [0, 1, 2, 7, 8, 9, 10, 11, 12] [] ?_;simp (maxSteps := 1000000) [hF])
 refine (keys_c g b u).go [(0, [])] (by simp (maxSteps := 1000000) [hF, dBk]) ?_;rintro av X κ ⟨rfl, rfl, rfl⟩;simp (maxSteps := 1000000) [hF, dBk]
 repeat first|refine n1 ?_|(refine rg 4 [0, 1, 2, 7, 8, 9, 10, 11, 12] [0, 1, 2, 7, 8, 9, 10, 11, 12, 13, 14] [] ?_;simp (maxSteps := 1000000) [hF])
 refine (ekeysof_ok g b u).go [] (by simp (maxSteps := 1000000) [hF, dBk]) ?_;rintro av X κ ⟨rfl, rfl, rfl⟩;simp (maxSteps := 1000000) [hF, dBk]
 repeat first|refine n1 ?_|(refine rg 5 [0, 1, 2, 7, 8, 9, 10, 11, 12, 13, 14] [1, 2, 7, 8, 9, 10, 11, 12, 13, 14, 15, 16] [] ?_;simp (maxSteps := 1000000) [hF])
 refine (all_c g f u).go [(0, [])] (by simp (maxSteps := 1000000) [hF, dBk]) ?_;rintro av X κ ⟨rfl, rfl, rfl⟩;simp (maxSteps := 1000000) [hF, dBk]
 repeat first|refine n1 ?_|(refine rg 6 [1, 2, 7, 8, 9, 10, 11, 12, 13, 14, 15, 16] [7, 8, 9, 10, 11, 12, 13, 14, 15, 16, 17, 18] [] ?_;simp (maxSteps := 1000000) [hF])
 refine (eall_ok g b u).go [] (by simp (maxSteps := 1000000) [hF, dBk]) ?_;rintro av X κ ⟨rfl, rfl, rfl⟩;simp (maxSteps := 1000000) [hF, dBk]
 repeat first|refine n1 ?_|(refine rg 7 [7, 8, 9, 10, 11, 12, 13, 14, 15, 16, 17, 18] [6] [(3, 58), (8, 63), (13, 68), (18, 73), (23, 78)] ?_;simp (maxSteps := 1000000) [hF])
 refine (texts_c (keysQ g u).1 false false (by omega)).go [(1, []), (2, [])] (by simp (maxSteps := 1000000) [hF, dBk]) ?_;rintro av X κ ⟨rfl, rfl, rfl⟩;simp (maxSteps := 1000000) [hF, dBk]
 refine (texts_c (allQ g u).1 false false (by omega)).go [(3, []), (4, [])] (by simp (maxSteps := 1000000) [hF, dBk]) ?_;rintro av X κ ⟨rfl, rfl, rfl⟩;simp (maxSteps := 1000000) [hF, dBk]
 (try refine nr ?_);(repeat first|refine nb_ ?_|refine nl_ ?_);refine endK.o [6] [0] [] ?_;simp [hF, retK, covers, mpre, dBk]
theorem grounds_i {n : Nat} (g : Gb) (f : Fb n g) (hn : n ≤ 1000000) (k : ByteArray) : Meets Tryz.prog 14 [dBk g] (.cons (.ptr 0 [.d]) (.cons (avE g) (.cons (avStr k) .nil))) fun av X κ => av = avBool true ∧ X = [dBk g] ∧ κ = [] := by
 have b := f.bk
 have l1 := whoQ_len b k
 refine fb Tryz.func14 Tryz.ntmps14 [.tmp 6] fun w0 I0 F0 hF => ?_
 repeat first|refine n1 ?_|((first|refine rg 0 [0, 1, 2] [0, 1, 2] [] ?_|refine rg 1 [0, 1, 2] [0, 1, 2, 7, 8] [] ?_);simp (maxSteps := 1000000) [hF])
 refine (serial_c g k).go [(0, [])] (by simp (maxSteps := 1000000) [hF, dBk]) ?_;rintro av X κ ⟨rfl, rfl, rfl⟩;simp (maxSteps := 1000000) [hF, dBk]
 repeat first|refine n1 ?_|(refine rg 2 [0, 1, 2, 7, 8] [0, 1, 2, 7, 8, 9, 10] [] ?_;simp (maxSteps := 1000000) [hF])
 refine (eserial_ok g b hn k).go [] (by simp (maxSteps := 1000000) [hF, dBk]) ?_;rintro av X κ ⟨rfl, rfl, rfl⟩;simp (maxSteps := 1000000) [hF, dBk]
 repeat first|refine n1 ?_|(refine rg 3 [0, 1, 2, 7, 8, 9, 10] [1, 2, 7, 8, 9, 10, 11, 12] [] ?_;simp (maxSteps := 1000000) [hF])
 refine (who_c g b k).go [(0, [])] (by simp (maxSteps := 1000000) [hF, dBk]) ?_;rintro av X κ ⟨rfl, rfl, rfl⟩;simp (maxSteps := 1000000) [hF, dBk]
 repeat first|refine n1 ?_|(refine rg 4 [1, 2, 7, 8, 9, 10, 11, 12] [7, 8, 9, 10, 11, 12, 13, 14] [] ?_;simp (maxSteps := 1000000) [hF])
 refine (eWho_ok g b k).go [] (by simp (maxSteps := 1000000) [hF, dBk]) ?_;rintro av X κ ⟨rfl, rfl, rfl⟩;simp (maxSteps := 1000000) [hF, dBk]
 repeat first|refine n1 ?_|(refine rg 5 [7, 8, 9, 10, 11, 12, 13, 14] [6] [(3, 42), (8, 47), (13, 52)] ?_;simp (maxSteps := 1000000) [hF])
 refine (ints_n (whoQ g k).1 false false (by omega)).go [(1, []), (2, [])] (by simp (maxSteps := 1000000) [hF, dBk]) ?_;rintro av X κ ⟨rfl, rfl, rfl⟩;simp (maxSteps := 1000000) [hF, dBk]
 (try refine nr ?_);(repeat first|refine nb_ ?_|refine nl_ ?_);refine endK.o [6] [0] [] ?_;simp [hF, retK, covers, mpre, dBk]
end Go.Proofs.YtipokdbfdingmaaGreat
