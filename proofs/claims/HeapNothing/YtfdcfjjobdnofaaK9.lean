/- What is asked of no heap, and of one that was not made. -/
import Derived.Test.YtfdcfjjobdnofaaK6
import Derived.Test.YtfdcfjjobdnofaaK8
import Derived.Test.YtfdcfjjobdnofaaRows
import Derived.WalkKit
import Derived.ProofKit
import Derived.OpenShut
import Derived.ShutString
import Derived.ChangeOld
import Derived.Carry
namespace Go.Proofs.Ytfdcfjjobdnofaa
set_option linter.all false
open Go.Vc Go.Proofs
set_option linter.unusedSimpArgs false
set_option linter.unusedVariables false
set_option maxRecDepth 100000
set_option maxHeartbeats 4000000
attribute [local irreducible] CallW EqK

def zH : Hp := ⟨0, 0, [], [], 0, [], [], [], []⟩
abbrev avPl0 : AV := .tup (.cons (avBool false) (.cons (avInt 0) (.cons (avInt 0) (.cons (avInt 1) .nil))))
/- (*cabochon/heap.Heap).real -/
theorem real_n : Meets Try.prog 38 [] (.cons avNil .nil) fun av X κ => av = avBool false ∧ X = [] ∧ κ = [] := by
 refine fb Try.func38 Try.ntmps38 [.tmp 2] fun w0 I0 F0 hF => ?_
 repeat first|refine n1 ?_|((first|refine rg 0 [0] [0] [] ?_|refine rg 1 [0] [2] [(2, 5)] ?_);simp (maxSteps := 1000000) [hF])
 (try refine nr ?_);(repeat first|refine nb_ ?_|refine nl_ ?_);refine endK.o [2] [] [] ?_;simp [hF, retK, covers, mpre]
/- (*cabochon/heap.Heap).real -/
theorem real_z : Meets Try.prog 38 [] (.cons (avH zH) .nil) fun av X κ => av = avBool false ∧ X = [] ∧ κ = [] := by
 refine fb Try.func38 Try.ntmps38 [.tmp 2] fun w0 I0 F0 hF => ?_
 repeat first|refine n1 ?_|((first|refine rg 0 [0] [0] [] ?_|refine rg 1 [0] [2] [(2, 5)] ?_);simp (maxSteps := 1000000) [hF, dHb, zH])
 (try refine nr ?_);(repeat first|refine nb_ ?_|refine nl_ ?_);refine endK.o [2] [] [] ?_;simp [hF, retK, covers, mpre]
/- (*cabochon/heap.Heap).Make -/
theorem Make_n (x : Int) : Meets Try.prog 32 [] (.cons avNil (.cons (avInt x) .nil)) fun av X κ => av = two (0, 1) ∧ X = [] ∧ κ = [] := by
 refine fb Try.func32 Try.ntmps32 [.tmp 4, .tmp 5] fun w0 I0 F0 hF => ?_
 repeat first|refine n1 ?_|((first|refine rg 0 [0, 1] [0, 1] [] ?_|refine rg 1 [0, 1] [0, 1, 17] [(3, 10), (7, 14)] ?_);simp (maxSteps := 1000000) [hF])
 refine (real_n).go [] (by simp (maxSteps := 1000000) [hF]) ?_;rintro av X κ ⟨rfl, rfl, rfl⟩;simp (maxSteps := 1000000) [hF]
 repeat first|refine n1 ?_|((first|refine rg 2 [] [4, 5] [] ?_|refine nc ?_);simp (maxSteps := 1000000) [hF])
 (try refine nr ?_);(repeat first|refine nb_ ?_|refine nl_ ?_);refine endK.o [4, 5] [] [] ?_;simp [hF, retK, covers, mpre]
/- (*cabochon/heap.Heap).Make -/
theorem Make_z (x : Int) : Meets Try.prog 32 [] (.cons (avH zH) (.cons (avInt x) .nil)) fun av X κ => av = two (0, 1) ∧ X = [] ∧ κ = [] := by
 refine fb Try.func32 Try.ntmps32 [.tmp 4, .tmp 5] fun w0 I0 F0 hF => ?_
 repeat first|refine n1 ?_|((first|refine rg 0 [0, 1] [0, 1] [] ?_|refine rg 1 [0, 1] [0, 1, 17] [(3, 10), (7, 14)] ?_);simp (maxSteps := 1000000) [hF, dHb, zH])
 refine (real_z).go [] (by simp (maxSteps := 1000000) [hF, dHb, zH]) ?_;rintro av X κ ⟨rfl, rfl, rfl⟩;simp (maxSteps := 1000000) [hF, dHb, zH]
 repeat first|refine n1 ?_|((first|refine rg 2 [] [4, 5] [] ?_|refine nc ?_);simp (maxSteps := 1000000) [hF, dHb, zH])
 (try refine nr ?_);(repeat first|refine nb_ ?_|refine nl_ ?_);refine endK.o [4, 5] [] [] ?_;simp [hF, retK, covers, mpre]
theorem Make_y (x : Int) : Meets Try.prog 32 [dHp zH] (.cons (.ptr 0 [.d]) (.cons (avInt x) .nil)) fun av X κ => av = two (0, 1) ∧ X = [dHp zH] ∧ κ = [] :=
 warmH (Make_z x) rfl rfl (by simp) rfl
/- (*cabochon/heap.Heap).slot -/
theorem slot_n (x s z : Int) : Meets Try.prog 53 [] (.cons avNil (.cons (avInt x) (.cons (avInt s) (.cons (avInt z) .nil)))) fun av X κ => av = avTwo avNil 1 ∧ X = [] ∧ κ = [] := by
 refine fb Try.func53 Try.ntmps53 [.tmp 8, .tmp 9] fun w0 I0 F0 hF => ?_
 repeat first|refine n1 ?_|((first|refine rg 0 [0, 1, 2, 3] [0, 1, 2, 3] [] ?_|refine rg 1 [0, 1, 2, 3] [0, 1, 2, 3, 31] [(3, 16), (7, 20), (11, 24), (15, 28)] ?_);simp (maxSteps := 1000000) [hF])
 refine (real_n).go [] (by simp (maxSteps := 1000000) [hF]) ?_;rintro av X κ ⟨rfl, rfl, rfl⟩;simp (maxSteps := 1000000) [hF]
 repeat first|refine n1 ?_|((first|refine rg 2 [] [8, 9] [] ?_|refine nc ?_);simp (maxSteps := 1000000) [hF])
 (try refine nr ?_);(repeat first|refine nb_ ?_|refine nl_ ?_);refine endK.o [8, 9] [] [] ?_;simp [hF, retK, covers, mpre]
/- (*cabochon/heap.Heap).slot -/
theorem slot_z (x s z : Int) : Meets Try.prog 53 [] (.cons (avH zH) (.cons (avInt x) (.cons (avInt s) (.cons (avInt z) .nil)))) fun av X κ => av = avTwo avNil 1 ∧ X = [] ∧ κ = [] := by
 refine fb Try.func53 Try.ntmps53 [.tmp 8, .tmp 9] fun w0 I0 F0 hF => ?_
 repeat first|refine n1 ?_|((first|refine rg 0 [0, 1, 2, 3] [0, 1, 2, 3] [] ?_|refine rg 1 [0, 1, 2, 3] [0, 1, 2, 3, 31] [(3, 16), (7, 20), (11, 24), (15, 28)] ?_);simp (maxSteps := 1000000) [hF, dHb, zH])
 refine (real_z).go [] (by simp (maxSteps := 1000000) [hF, dHb, zH]) ?_;rintro av X κ ⟨rfl, rfl, rfl⟩;simp (maxSteps := 1000000) [hF, dHb, zH]
 repeat first|refine n1 ?_|((first|refine rg 2 [] [8, 9] [] ?_|refine nc ?_);simp (maxSteps := 1000000) [hF, dHb, zH])
 (try refine nr ?_);(repeat first|refine nb_ ?_|refine nl_ ?_);refine endK.o [8, 9] [] [] ?_;simp [hF, retK, covers, mpre]
/- (*cabochon/heap.Heap).Get -/
theorem Get_n (x s : Int) : Meets Try.prog 23 [] (.cons avNil (.cons (avInt x) (.cons (avInt s) .nil))) fun av X κ => av = two (0, 1) ∧ X = [] ∧ κ = [] := by
 refine fb Try.func23 Try.ntmps23 [.tmp 6, .tmp 7] fun w0 I0 F0 hF => ?_
 repeat first|refine n1 ?_|((first|refine rg 0 [0, 1, 2] [0, 1, 2] [] ?_|refine rg 1 [0, 1, 2] [8, 9] [] ?_);simp (maxSteps := 1000000) [hF])
 refine (slot_n x s 0).go [] (by simp (maxSteps := 1000000) [hF]) ?_;rintro av X κ ⟨rfl, rfl, rfl⟩;simp (maxSteps := 1000000) [hF]
 repeat first|refine n1 ?_|((first|refine rg 2 [8, 9] [8, 9, 18] [] ?_|refine rg 3 [9] [6, 7] [] ?_|refine nc ?_);simp (maxSteps := 1000000) [hF])
 (try refine nr ?_);(repeat first|refine nb_ ?_|refine nl_ ?_);refine endK.o [6, 7] [] [] ?_;simp [hF, retK, covers, mpre]
/- (*cabochon/heap.Heap).Get -/
theorem Get_z (x s : Int) : Meets Try.prog 23 [] (.cons (avH zH) (.cons (avInt x) (.cons (avInt s) .nil))) fun av X κ => av = two (0, 1) ∧ X = [] ∧ κ = [] := by
 refine fb Try.func23 Try.ntmps23 [.tmp 6, .tmp 7] fun w0 I0 F0 hF => ?_
 repeat first|refine n1 ?_|((first|refine rg 0 [0, 1, 2] [0, 1, 2] [] ?_|refine rg 1 [0, 1, 2] [8, 9] [] ?_);simp (maxSteps := 1000000) [hF, dHb, zH])
 refine (slot_z x s 0).go [] (by simp (maxSteps := 1000000) [hF, dHb, zH]) ?_;rintro av X κ ⟨rfl, rfl, rfl⟩;simp (maxSteps := 1000000) [hF, dHb, zH]
 repeat first|refine n1 ?_|((first|refine rg 2 [8, 9] [8, 9, 18] [] ?_|refine rg 3 [9] [6, 7] [] ?_|refine nc ?_);simp (maxSteps := 1000000) [hF, dHb, zH])
 (try refine nr ?_);(repeat first|refine nb_ ?_|refine nl_ ?_);refine endK.o [6, 7] [] [] ?_;simp [hF, retK, covers, mpre]
theorem Get_y (x s : Int) : Meets Try.prog 23 [dHp zH] (.cons (.ptr 0 [.d]) (.cons (avInt x) (.cons (avInt s) .nil))) fun av X κ => av = two (0, 1) ∧ X = [dHp zH] ∧ κ = [] :=
 warmH (Get_z x s) rfl rfl (by simp) rfl
/- (*cabochon/heap.Heap).Set -/
theorem Set_n (x s z : Int) : Meets Try.prog 34 [] (.cons avNil (.cons (avInt x) (.cons (avInt s) (.cons (avInt z) .nil)))) fun av X κ => av = avInt 1 ∧ X = [] ∧ κ = [] := by
 refine fb Try.func34 Try.ntmps34 [.tmp 8] fun w0 I0 F0 hF => ?_
 repeat first|refine n1 ?_|((first|refine rg 0 [0, 1, 2, 3] [0, 1, 2, 3] [] ?_|refine rg 1 [0, 1, 2, 3] [3, 9, 10] [] ?_);simp (maxSteps := 1000000) [hF])
 refine (slot_n x s z).go [] (by simp (maxSteps := 1000000) [hF]) ?_;rintro av X κ ⟨rfl, rfl, rfl⟩;simp (maxSteps := 1000000) [hF]
 repeat first|refine n1 ?_|refine n2 ?_|((first|refine rg 2 [3, 9, 10] [3, 9, 10, 20] [] ?_|refine rg 4 [10] [8] [] ?_|refine nc ?_);simp (maxSteps := 1000000) [hF])
 (try refine nr ?_);(repeat first|refine nb_ ?_|refine nl_ ?_);refine endK.o [8] [] [] ?_;simp [hF, retK, covers, mpre]
/- (*cabochon/heap.Heap).Set -/
theorem Set_z (x s z : Int) : Meets Try.prog 34 [] (.cons (avH zH) (.cons (avInt x) (.cons (avInt s) (.cons (avInt z) .nil)))) fun av X κ => av = avInt 1 ∧ X = [] ∧ κ = [] := by
 refine fb Try.func34 Try.ntmps34 [.tmp 8] fun w0 I0 F0 hF => ?_
 repeat first|refine n1 ?_|((first|refine rg 0 [0, 1, 2, 3] [0, 1, 2, 3] [] ?_|refine rg 1 [0, 1, 2, 3] [3, 9, 10] [] ?_);simp (maxSteps := 1000000) [hF, dHb, zH])
 refine (slot_z x s z).go [] (by simp (maxSteps := 1000000) [hF, dHb, zH]) ?_;rintro av X κ ⟨rfl, rfl, rfl⟩;simp (maxSteps := 1000000) [hF, dHb, zH]
 repeat first|refine n1 ?_|refine n2 ?_|((first|refine rg 2 [3, 9, 10] [3, 9, 10, 20] [] ?_|refine rg 4 [10] [8] [] ?_|refine nc ?_);simp (maxSteps := 1000000) [hF, dHb, zH])
 (try refine nr ?_);(repeat first|refine nb_ ?_|refine nl_ ?_);refine endK.o [8] [] [] ?_;simp [hF, retK, covers, mpre]
theorem Set_y (x s z : Int) : Meets Try.prog 34 [dHp zH] (.cons (.ptr 0 [.d]) (.cons (avInt x) (.cons (avInt s) (.cons (avInt z) .nil)))) fun av X κ => av = avInt 1 ∧ X = [dHp zH] ∧ κ = [] :=
 warmH (Set_z x s z) rfl rfl (by simp) rfl
/- (*cabochon/heap.Heap).Roots -/
theorem Roots_n : Meets Try.prog 21 [] (.cons avNil (.cons (.nils 1) .nil)) fun av X κ => av = avInt 1 ∧ X = [] ∧ κ = [] := by
 refine fb Try.func21 Try.ntmps21 [.tmp 4] fun w0 I0 F0 hF => ?_
 repeat first|refine n1 ?_|((first|refine rg 0 [0, 1] [1, 2] [] ?_|refine rg 1 [1, 2] [1, 2, 16] [(3, 8), (8, 13)] ?_);simp (maxSteps := 1000000) [hF])
 refine (real_n).go [] (by simp (maxSteps := 1000000) [hF]) ?_;rintro av X κ ⟨rfl, rfl, rfl⟩;simp (maxSteps := 1000000) [hF]
 repeat first|refine n1 ?_|((first|refine rg 2 [] [4] [] ?_|refine nc ?_);simp (maxSteps := 1000000) [hF])
 (try refine nr ?_);(repeat first|refine nb_ ?_|refine nl_ ?_);refine endK.o [4] [] [] ?_;simp [hF, retK, covers, mpre]
/- (*cabochon/heap.Heap).Roots -/
theorem Roots_z : Meets Try.prog 21 [] (.cons (avH zH) (.cons (.nils 1) .nil)) fun av X κ => av = avInt 1 ∧ X = [] ∧ κ = [] := by
 refine fb Try.func21 Try.ntmps21 [.tmp 4] fun w0 I0 F0 hF => ?_
 repeat first|refine n1 ?_|((first|refine rg 0 [0, 1] [1, 2] [] ?_|refine rg 1 [1, 2] [1, 2, 16] [(3, 8), (8, 13)] ?_);simp (maxSteps := 1000000) [hF, dHb, zH])
 refine (real_z).go [] (by simp (maxSteps := 1000000) [hF, dHb, zH]) ?_;rintro av X κ ⟨rfl, rfl, rfl⟩;simp (maxSteps := 1000000) [hF, dHb, zH]
 repeat first|refine n1 ?_|((first|refine rg 2 [] [4] [] ?_|refine nc ?_);simp (maxSteps := 1000000) [hF, dHb, zH])
 (try refine nr ?_);(repeat first|refine nb_ ?_|refine nl_ ?_);refine endK.o [4] [] [] ?_;simp [hF, retK, covers, mpre]
theorem Roots_y : Meets Try.prog 21 [dHp zH] (.cons (.ptr 0 [.d]) (.cons (.nils 1) .nil)) fun av X κ => av = avInt 1 ∧ X = [dHp zH] ∧ κ = [] :=
 warmH (Roots_z) rfl rfl (by simp) rfl
/- (*cabochon/heap.Heap).collect -/
theorem collect_true_n : Meets Try.prog 39 [] (.cons avNil (.cons (avBool true) .nil)) fun av X κ => av = two (0, 1) ∧ X = [] ∧ κ = [] := by
 refine fb Try.func39 Try.ntmps39 [.tmp 4, .tmp 5] fun w0 I0 F0 hF => ?_
 repeat first|refine n1 ?_|((first|refine rg 0 [0, 1] [2, 3] [] ?_|refine rg 1 [2, 3] [2, 3, 14] [] ?_);simp (maxSteps := 1000000) [hF])
 refine (real_n).go [] (by simp (maxSteps := 1000000) [hF]) ?_;rintro av X κ ⟨rfl, rfl, rfl⟩;simp (maxSteps := 1000000) [hF]
 repeat first|refine n1 ?_|((first|refine rg 2 [] [4, 5] [] ?_|refine nc ?_);simp (maxSteps := 1000000) [hF])
 (try refine nr ?_);(repeat first|refine nb_ ?_|refine nl_ ?_);refine endK.o [4, 5] [] [] ?_;simp [hF, retK, covers, mpre]
/- (*cabochon/heap.Heap).collect -/
theorem collect_true_z : Meets Try.prog 39 [] (.cons (avH zH) (.cons (avBool true) .nil)) fun av X κ => av = two (0, 1) ∧ X = [] ∧ κ = [] := by
 refine fb Try.func39 Try.ntmps39 [.tmp 4, .tmp 5] fun w0 I0 F0 hF => ?_
 repeat first|refine n1 ?_|((first|refine rg 0 [0, 1] [2, 3] [] ?_|refine rg 1 [2, 3] [2, 3, 14] [] ?_);simp (maxSteps := 1000000) [hF, dHb, zH])
 refine (real_z).go [] (by simp (maxSteps := 1000000) [hF, dHb, zH]) ?_;rintro av X κ ⟨rfl, rfl, rfl⟩;simp (maxSteps := 1000000) [hF, dHb, zH]
 repeat first|refine n1 ?_|((first|refine rg 2 [] [4, 5] [] ?_|refine nc ?_);simp (maxSteps := 1000000) [hF, dHb, zH])
 (try refine nr ?_);(repeat first|refine nb_ ?_|refine nl_ ?_);refine endK.o [4, 5] [] [] ?_;simp [hF, retK, covers, mpre]
/- (*cabochon/heap.Heap).collect -/
theorem collect_false_n : Meets Try.prog 39 [] (.cons avNil (.cons (avBool false) .nil)) fun av X κ => av = two (0, 1) ∧ X = [] ∧ κ = [] := by
 refine fb Try.func39 Try.ntmps39 [.tmp 4, .tmp 5] fun w0 I0 F0 hF => ?_
 repeat first|refine n1 ?_|((first|refine rg 0 [0, 1] [2, 3] [] ?_|refine rg 1 [2, 3] [2, 3, 14] [] ?_);simp (maxSteps := 1000000) [hF])
 refine (real_n).go [] (by simp (maxSteps := 1000000) [hF]) ?_;rintro av X κ ⟨rfl, rfl, rfl⟩;simp (maxSteps := 1000000) [hF]
 repeat first|refine n1 ?_|((first|refine rg 2 [] [4, 5] [] ?_|refine nc ?_);simp (maxSteps := 1000000) [hF])
 (try refine nr ?_);(repeat first|refine nb_ ?_|refine nl_ ?_);refine endK.o [4, 5] [] [] ?_;simp [hF, retK, covers, mpre]
/- (*cabochon/heap.Heap).collect -/
theorem collect_false_z : Meets Try.prog 39 [] (.cons (avH zH) (.cons (avBool false) .nil)) fun av X κ => av = two (0, 1) ∧ X = [] ∧ κ = [] := by
 refine fb Try.func39 Try.ntmps39 [.tmp 4, .tmp 5] fun w0 I0 F0 hF => ?_
 repeat first|refine n1 ?_|((first|refine rg 0 [0, 1] [2, 3] [] ?_|refine rg 1 [2, 3] [2, 3, 14] [] ?_);simp (maxSteps := 1000000) [hF, dHb, zH])
 refine (real_z).go [] (by simp (maxSteps := 1000000) [hF, dHb, zH]) ?_;rintro av X κ ⟨rfl, rfl, rfl⟩;simp (maxSteps := 1000000) [hF, dHb, zH]
 repeat first|refine n1 ?_|((first|refine rg 2 [] [4, 5] [] ?_|refine nc ?_);simp (maxSteps := 1000000) [hF, dHb, zH])
 (try refine nr ?_);(repeat first|refine nb_ ?_|refine nl_ ?_);refine endK.o [4, 5] [] [] ?_;simp [hF, retK, covers, mpre]
/- (*cabochon/heap.Heap).Minor -/
theorem Minor_n : Meets Try.prog 12 [] (.cons avNil .nil) fun av X κ => av = two (0, 1) ∧ X = [] ∧ κ = [] := by
 refine fb Try.func12 Try.ntmps12 [.tmp 2, .tmp 3] fun w0 I0 F0 hF => ?_
 repeat first|refine n1 ?_|((first|refine rg 0 [0] [0] [] ?_|refine rg 1 [0] [2, 3] [] ?_);simp (maxSteps := 1000000) [hF])
 refine (collect_true_n).go [] (by simp (maxSteps := 1000000) [hF]) ?_;rintro av X κ ⟨rfl, rfl, rfl⟩;simp (maxSteps := 1000000) [hF]
 (try refine nr ?_);(repeat first|refine nb_ ?_|refine nl_ ?_);refine endK.o [2, 3] [] [] ?_;simp [hF, retK, covers, mpre]
/- (*cabochon/heap.Heap).Minor -/
theorem Minor_z : Meets Try.prog 12 [] (.cons (avH zH) .nil) fun av X κ => av = two (0, 1) ∧ X = [] ∧ κ = [] := by
 refine fb Try.func12 Try.ntmps12 [.tmp 2, .tmp 3] fun w0 I0 F0 hF => ?_
 repeat first|refine n1 ?_|((first|refine rg 0 [0] [0] [] ?_|refine rg 1 [0] [2, 3] [] ?_);simp (maxSteps := 1000000) [hF, dHb, zH])
 refine (collect_true_z).go [] (by simp (maxSteps := 1000000) [hF, dHb, zH]) ?_;rintro av X κ ⟨rfl, rfl, rfl⟩;simp (maxSteps := 1000000) [hF, dHb, zH]
 (try refine nr ?_);(repeat first|refine nb_ ?_|refine nl_ ?_);refine endK.o [2, 3] [] [] ?_;simp [hF, retK, covers, mpre]
theorem Minor_y : Meets Try.prog 12 [dHp zH] (.cons (.ptr 0 [.d]) .nil) fun av X κ => av = two (0, 1) ∧ X = [dHp zH] ∧ κ = [] :=
 warmH (Minor_z) rfl rfl (by simp) rfl
/- (*cabochon/heap.Heap).Major -/
theorem Major_n : Meets Try.prog 13 [] (.cons avNil .nil) fun av X κ => av = two (0, 1) ∧ X = [] ∧ κ = [] := by
 refine fb Try.func13 Try.ntmps13 [.tmp 2, .tmp 3] fun w0 I0 F0 hF => ?_
 repeat first|refine n1 ?_|((first|refine rg 0 [0] [0] [] ?_|refine rg 1 [0] [2, 3] [] ?_);simp (maxSteps := 1000000) [hF])
 refine (collect_false_n).go [] (by simp (maxSteps := 1000000) [hF]) ?_;rintro av X κ ⟨rfl, rfl, rfl⟩;simp (maxSteps := 1000000) [hF]
 (try refine nr ?_);(repeat first|refine nb_ ?_|refine nl_ ?_);refine endK.o [2, 3] [] [] ?_;simp [hF, retK, covers, mpre]
/- (*cabochon/heap.Heap).Major -/
theorem Major_z : Meets Try.prog 13 [] (.cons (avH zH) .nil) fun av X κ => av = two (0, 1) ∧ X = [] ∧ κ = [] := by
 refine fb Try.func13 Try.ntmps13 [.tmp 2, .tmp 3] fun w0 I0 F0 hF => ?_
 repeat first|refine n1 ?_|((first|refine rg 0 [0] [0] [] ?_|refine rg 1 [0] [2, 3] [] ?_);simp (maxSteps := 1000000) [hF, dHb, zH])
 refine (collect_false_z).go [] (by simp (maxSteps := 1000000) [hF, dHb, zH]) ?_;rintro av X κ ⟨rfl, rfl, rfl⟩;simp (maxSteps := 1000000) [hF, dHb, zH]
 (try refine nr ?_);(repeat first|refine nb_ ?_|refine nl_ ?_);refine endK.o [2, 3] [] [] ?_;simp [hF, retK, covers, mpre]
theorem Major_y : Meets Try.prog 13 [dHp zH] (.cons (.ptr 0 [.d]) .nil) fun av X κ => av = two (0, 1) ∧ X = [dHp zH] ∧ κ = [] :=
 warmH (Major_z) rfl rfl (by simp) rfl
/- (*cabochon/heap.Heap).asked -/
theorem asked_n (x : Int) : Meets Try.prog 40 [] (.cons avNil (.cons (avInt x) .nil)) fun av X κ => av = avInt 1 ∧ X = [] ∧ κ = [] := by
 refine fb Try.func40 Try.ntmps40 [.tmp 4] fun w0 I0 F0 hF => ?_
 repeat first|refine n1 ?_|refine n3 ?_|((first|refine rg 0 [0, 1] [0, 1] [] ?_|refine rg 1 [0, 1] [0, 1, 5] [(3, 9)] ?_);simp (maxSteps := 1000000) [hF])
 refine (real_n).go [] (by simp (maxSteps := 1000000) [hF]) ?_;rintro av X κ ⟨rfl, rfl, rfl⟩;simp (maxSteps := 1000000) [hF]
 repeat first|refine n1 ?_|((first|refine rg 2 [] [4] [] ?_|refine nc ?_);simp (maxSteps := 1000000) [hF])
 (try refine nr ?_);(repeat first|refine nb_ ?_|refine nl_ ?_);refine endK.o [4] [] [] ?_;simp [hF, retK, covers, mpre]
/- (*cabochon/heap.Heap).asked -/
theorem asked_z (x : Int) : Meets Try.prog 40 [] (.cons (avH zH) (.cons (avInt x) .nil)) fun av X κ => av = avInt 1 ∧ X = [] ∧ κ = [] := by
 refine fb Try.func40 Try.ntmps40 [.tmp 4] fun w0 I0 F0 hF => ?_
 repeat first|refine n1 ?_|refine n3 ?_|((first|refine rg 0 [0, 1] [0, 1] [] ?_|refine rg 1 [0, 1] [0, 1, 5] [(3, 9)] ?_);simp (maxSteps := 1000000) [hF, dHb, zH])
 refine (real_z).go [] (by simp (maxSteps := 1000000) [hF, dHb, zH]) ?_;rintro av X κ ⟨rfl, rfl, rfl⟩;simp (maxSteps := 1000000) [hF, dHb, zH]
 repeat first|refine n1 ?_|((first|refine rg 2 [] [4] [] ?_|refine nc ?_);simp (maxSteps := 1000000) [hF, dHb, zH])
 (try refine nr ?_);(repeat first|refine nb_ ?_|refine nl_ ?_);refine endK.o [4] [] [] ?_;simp [hF, retK, covers, mpre]
/- (*cabochon/heap.Heap).Weak -/
theorem Weak_n (x t : Int) : Meets Try.prog 33 [] (.cons avNil (.cons (avInt x) (.cons (avInt t) .nil))) fun av X κ => av = two (0, 1) ∧ X = [] ∧ κ = [] := by
 refine fb Try.func33 Try.ntmps33 [.tmp 6, .tmp 7] fun w0 I0 F0 hF => ?_
 repeat first|refine n1 ?_|((first|refine rg 0 [0, 1, 2] [0, 1, 2] [] ?_|refine rg 1 [0, 1, 2] [0, 1, 2, 8] [] ?_);simp (maxSteps := 1000000) [hF])
 refine (asked_n x).go [] (by simp (maxSteps := 1000000) [hF]) ?_;rintro av X κ ⟨rfl, rfl, rfl⟩;simp (maxSteps := 1000000) [hF]
 repeat first|refine n1 ?_|((first|refine rg 2 [0, 1, 2, 8] [0, 1, 2, 8, 13] [] ?_|refine rg 3 [8] [6, 7] [] ?_|refine nc ?_);simp (maxSteps := 1000000) [hF])
 (try refine nr ?_);(repeat first|refine nb_ ?_|refine nl_ ?_);refine endK.o [6, 7] [] [] ?_;simp [hF, retK, covers, mpre]
/- (*cabochon/heap.Heap).Weak -/
theorem Weak_z (x t : Int) : Meets Try.prog 33 [] (.cons (avH zH) (.cons (avInt x) (.cons (avInt t) .nil))) fun av X κ => av = two (0, 1) ∧ X = [] ∧ κ = [] := by
 refine fb Try.func33 Try.ntmps33 [.tmp 6, .tmp 7] fun w0 I0 F0 hF => ?_
 repeat first|refine n1 ?_|((first|refine rg 0 [0, 1, 2] [0, 1, 2] [] ?_|refine rg 1 [0, 1, 2] [0, 1, 2, 8] [] ?_);simp (maxSteps := 1000000) [hF, dHb, zH])
 refine (asked_z x).go [] (by simp (maxSteps := 1000000) [hF, dHb, zH]) ?_;rintro av X κ ⟨rfl, rfl, rfl⟩;simp (maxSteps := 1000000) [hF, dHb, zH]
 repeat first|refine n1 ?_|((first|refine rg 2 [0, 1, 2, 8] [0, 1, 2, 8, 13] [] ?_|refine rg 3 [8] [6, 7] [] ?_|refine nc ?_);simp (maxSteps := 1000000) [hF, dHb, zH])
 (try refine nr ?_);(repeat first|refine nb_ ?_|refine nl_ ?_);refine endK.o [6, 7] [] [] ?_;simp [hF, retK, covers, mpre]
theorem Weak_y (x t : Int) : Meets Try.prog 33 [dHp zH] (.cons (.ptr 0 [.d]) (.cons (avInt x) (.cons (avInt t) .nil))) fun av X κ => av = two (0, 1) ∧ X = [dHp zH] ∧ κ = [] :=
 warmH (Weak_z x t) rfl rfl (by simp) rfl
/- (*cabochon/heap.Heap).Final -/
theorem Final_n (x t : Int) : Meets Try.prog 18 [] (.cons avNil (.cons (avInt x) (.cons (avInt t) .nil))) fun av X κ => av = avInt 1 ∧ X = [] ∧ κ = [] := by
 refine fb Try.func18 Try.ntmps18 [.tmp 6] fun w0 I0 F0 hF => ?_
 repeat first|refine n1 ?_|((first|refine rg 0 [0, 1, 2] [0, 1, 2] [] ?_|refine rg 1 [0, 1, 2] [0, 1, 2, 7] [] ?_);simp (maxSteps := 1000000) [hF])
 refine (asked_n x).go [] (by simp (maxSteps := 1000000) [hF]) ?_;rintro av X κ ⟨rfl, rfl, rfl⟩;simp (maxSteps := 1000000) [hF]
 repeat first|refine n1 ?_|refine n2 ?_|((first|refine rg 2 [0, 1, 2, 7] [0, 1, 2, 7, 12] [] ?_|refine rg 4 [7] [6] [] ?_|refine nc ?_);simp (maxSteps := 1000000) [hF])
 (try refine nr ?_);(repeat first|refine nb_ ?_|refine nl_ ?_);refine endK.o [6] [] [] ?_;simp [hF, retK, covers, mpre]
/- (*cabochon/heap.Heap).Final -/
theorem Final_z (x t : Int) : Meets Try.prog 18 [] (.cons (avH zH) (.cons (avInt x) (.cons (avInt t) .nil))) fun av X κ => av = avInt 1 ∧ X = [] ∧ κ = [] := by
 refine fb Try.func18 Try.ntmps18 [.tmp 6] fun w0 I0 F0 hF => ?_
 repeat first|refine n1 ?_|((first|refine rg 0 [0, 1, 2] [0, 1, 2] [] ?_|refine rg 1 [0, 1, 2] [0, 1, 2, 7] [] ?_);simp (maxSteps := 1000000) [hF, dHb, zH])
 refine (asked_z x).go [] (by simp (maxSteps := 1000000) [hF, dHb, zH]) ?_;rintro av X κ ⟨rfl, rfl, rfl⟩;simp (maxSteps := 1000000) [hF, dHb, zH]
 repeat first|refine n1 ?_|refine n2 ?_|((first|refine rg 2 [0, 1, 2, 7] [0, 1, 2, 7, 12] [] ?_|refine rg 4 [7] [6] [] ?_|refine nc ?_);simp (maxSteps := 1000000) [hF, dHb, zH])
 (try refine nr ?_);(repeat first|refine nb_ ?_|refine nl_ ?_);refine endK.o [6] [] [] ?_;simp [hF, retK, covers, mpre]
theorem Final_y (x t : Int) : Meets Try.prog 18 [dHp zH] (.cons (.ptr 0 [.d]) (.cons (avInt x) (.cons (avInt t) .nil))) fun av X κ => av = avInt 1 ∧ X = [dHp zH] ∧ κ = [] :=
 warmH (Final_z x t) rfl rfl (by simp) rfl
/- (*cabochon/heap.Heap).Take -/
theorem Take_n : Meets Try.prog 16 [] (.cons avNil .nil) fun av X κ => av = two (0, 1) ∧ X = [] ∧ κ = [] := by
 refine fb Try.func16 Try.ntmps16 [.tmp 2, .tmp 3] fun w0 I0 F0 hF => ?_
 repeat first|refine n1 ?_|((first|refine rg 0 [0] [0] [] ?_|refine rg 1 [0] [0, 7] [] ?_);simp (maxSteps := 1000000) [hF])
 refine (real_n).go [] (by simp (maxSteps := 1000000) [hF]) ?_;rintro av X κ ⟨rfl, rfl, rfl⟩;simp (maxSteps := 1000000) [hF]
 repeat first|refine n1 ?_|((first|refine rg 2 [] [2, 3] [] ?_|refine nc ?_);simp (maxSteps := 1000000) [hF])
 (try refine nr ?_);(repeat first|refine nb_ ?_|refine nl_ ?_);refine endK.o [2, 3] [] [] ?_;simp [hF, retK, covers, mpre]
/- (*cabochon/heap.Heap).Take -/
theorem Take_z : Meets Try.prog 16 [] (.cons (avH zH) .nil) fun av X κ => av = two (0, 1) ∧ X = [] ∧ κ = [] := by
 refine fb Try.func16 Try.ntmps16 [.tmp 2, .tmp 3] fun w0 I0 F0 hF => ?_
 repeat first|refine n1 ?_|((first|refine rg 0 [0] [0] [] ?_|refine rg 1 [0] [0, 7] [] ?_);simp (maxSteps := 1000000) [hF, dHb, zH])
 refine (real_z).go [] (by simp (maxSteps := 1000000) [hF, dHb, zH]) ?_;rintro av X κ ⟨rfl, rfl, rfl⟩;simp (maxSteps := 1000000) [hF, dHb, zH]
 repeat first|refine n1 ?_|((first|refine rg 2 [] [2, 3] [] ?_|refine nc ?_);simp (maxSteps := 1000000) [hF, dHb, zH])
 (try refine nr ?_);(repeat first|refine nb_ ?_|refine nl_ ?_);refine endK.o [2, 3] [] [] ?_;simp [hF, retK, covers, mpre]
theorem Take_y : Meets Try.prog 16 [dHp zH] (.cons (.ptr 0 [.d]) .nil) fun av X κ => av = two (0, 1) ∧ X = [dHp zH] ∧ κ = [] :=
 warmH (Take_z) rfl rfl (by simp) rfl
/- (*cabochon/heap.Heap).Place -/
theorem Place_n (x : Int) : Meets Try.prog 14 [] (.cons avNil (.cons (avInt x) .nil)) fun av X κ => av = avPl0 ∧ X = [] ∧ κ = [] := by
 refine fb Try.func14 Try.ntmps14 [.tmp 4, .tmp 5, .tmp 6, .tmp 7] fun w0 I0 F0 hF => ?_
 repeat first|refine n1 ?_|((first|refine rg 0 [0, 1] [0, 1] [] ?_|refine rg 1 [0, 1] [0, 1, 8] [] ?_);simp (maxSteps := 1000000) [hF])
 refine (asked_n x).go [] (by simp (maxSteps := 1000000) [hF]) ?_;rintro av X κ ⟨rfl, rfl, rfl⟩;simp (maxSteps := 1000000) [hF]
 repeat first|refine n1 ?_|((first|refine rg 2 [0, 1, 8] [0, 1, 8, 16] [] ?_|refine rg 3 [8] [4, 5, 6, 7] [] ?_|refine nc ?_);simp (maxSteps := 1000000) [hF])
 (try refine nr ?_);(repeat first|refine nb_ ?_|refine nl_ ?_);refine endK.o [4, 5, 6, 7] [] [] ?_;simp [hF, retK, covers, mpre]
/- (*cabochon/heap.Heap).Place -/
theorem Place_z (x : Int) : Meets Try.prog 14 [] (.cons (avH zH) (.cons (avInt x) .nil)) fun av X κ => av = avPl0 ∧ X = [] ∧ κ = [] := by
 refine fb Try.func14 Try.ntmps14 [.tmp 4, .tmp 5, .tmp 6, .tmp 7] fun w0 I0 F0 hF => ?_
 repeat first|refine n1 ?_|((first|refine rg 0 [0, 1] [0, 1] [] ?_|refine rg 1 [0, 1] [0, 1, 8] [] ?_);simp (maxSteps := 1000000) [hF, dHb, zH])
 refine (asked_z x).go [] (by simp (maxSteps := 1000000) [hF, dHb, zH]) ?_;rintro av X κ ⟨rfl, rfl, rfl⟩;simp (maxSteps := 1000000) [hF, dHb, zH]
 repeat first|refine n1 ?_|((first|refine rg 2 [0, 1, 8] [0, 1, 8, 16] [] ?_|refine rg 3 [8] [4, 5, 6, 7] [] ?_|refine nc ?_);simp (maxSteps := 1000000) [hF, dHb, zH])
 (try refine nr ?_);(repeat first|refine nb_ ?_|refine nl_ ?_);refine endK.o [4, 5, 6, 7] [] [] ?_;simp [hF, retK, covers, mpre]
theorem Place_y (x : Int) : Meets Try.prog 14 [dHp zH] (.cons (.ptr 0 [.d]) (.cons (avInt x) .nil)) fun av X κ => av = avPl0 ∧ X = [dHp zH] ∧ κ = [] :=
 warmH (Place_z x) rfl rfl (by simp) rfl
/- (*cabochon/heap.Heap).Remembered -/
theorem Remembered_n : Meets Try.prog 35 [] (.cons avNil .nil) fun av X κ => av = .nils 1 ∧ X = [] ∧ κ = [] := by
 refine fb Try.func35 Try.ntmps35 [.tmp 2] fun w0 I0 F0 hF => ?_
 repeat first|refine n1 ?_|((first|refine rg 0 [0] [1] [] ?_|refine rg 1 [1] [1, 8] [] ?_);simp (maxSteps := 1000000) [hF])
 refine (real_n).go [] (by simp (maxSteps := 1000000) [hF]) ?_;rintro av X κ ⟨rfl, rfl, rfl⟩;simp (maxSteps := 1000000) [hF]
 repeat first|refine n1 ?_|((first|refine rg 2 [] [2] [] ?_|refine nc ?_);simp (maxSteps := 1000000) [hF])
 (try refine nr ?_);(repeat first|refine nb_ ?_|refine nl_ ?_);refine endK.o [2] [] [] ?_;simp [hF, retK, covers, mpre]
/- (*cabochon/heap.Heap).Remembered -/
theorem Remembered_z : Meets Try.prog 35 [] (.cons (avH zH) .nil) fun av X κ => av = .nils 1 ∧ X = [] ∧ κ = [] := by
 refine fb Try.func35 Try.ntmps35 [.tmp 2] fun w0 I0 F0 hF => ?_
 repeat first|refine n1 ?_|((first|refine rg 0 [0] [1] [] ?_|refine rg 1 [1] [1, 8] [] ?_);simp (maxSteps := 1000000) [hF, dHb, zH])
 refine (real_z).go [] (by simp (maxSteps := 1000000) [hF, dHb, zH]) ?_;rintro av X κ ⟨rfl, rfl, rfl⟩;simp (maxSteps := 1000000) [hF, dHb, zH]
 repeat first|refine n1 ?_|((first|refine rg 2 [] [2] [] ?_|refine nc ?_);simp (maxSteps := 1000000) [hF, dHb, zH])
 (try refine nr ?_);(repeat first|refine nb_ ?_|refine nl_ ?_);refine endK.o [2] [] [] ?_;simp [hF, retK, covers, mpre]
theorem Remembered_y : Meets Try.prog 35 [dHp zH] (.cons (.ptr 0 [.d]) .nil) fun av X κ => av = .nils 1 ∧ X = [dHp zH] ∧ κ = [] :=
 warmH (Remembered_z) rfl rfl (by simp) rfl
/- (*cabochon/heap.Heap).Live -/
theorem Live_n : Meets Try.prog 19 [] (.cons avNil .nil) fun av X κ => av = .nils 1 ∧ X = [] ∧ κ = [] := by
 refine fb Try.func19 Try.ntmps19 [.tmp 2] fun w0 I0 F0 hF => ?_
 repeat first|refine n1 ?_|((first|refine rg 0 [0] [0] [] ?_|refine rg 1 [0] [0, 9] [] ?_);simp (maxSteps := 1000000) [hF])
 refine (real_n).go [] (by simp (maxSteps := 1000000) [hF]) ?_;rintro av X κ ⟨rfl, rfl, rfl⟩;simp (maxSteps := 1000000) [hF]
 repeat first|refine n1 ?_|((first|refine rg 2 [] [2] [] ?_|refine nc ?_);simp (maxSteps := 1000000) [hF])
 (try refine nr ?_);(repeat first|refine nb_ ?_|refine nl_ ?_);refine endK.o [2] [] [] ?_;simp [hF, retK, covers, mpre]
/- (*cabochon/heap.Heap).Live -/
theorem Live_z : Meets Try.prog 19 [] (.cons (avH zH) .nil) fun av X κ => av = .nils 1 ∧ X = [] ∧ κ = [] := by
 refine fb Try.func19 Try.ntmps19 [.tmp 2] fun w0 I0 F0 hF => ?_
 repeat first|refine n1 ?_|((first|refine rg 0 [0] [0] [] ?_|refine rg 1 [0] [0, 9] [] ?_);simp (maxSteps := 1000000) [hF, dHb, zH])
 refine (real_z).go [] (by simp (maxSteps := 1000000) [hF, dHb, zH]) ?_;rintro av X κ ⟨rfl, rfl, rfl⟩;simp (maxSteps := 1000000) [hF, dHb, zH]
 repeat first|refine n1 ?_|((first|refine rg 2 [] [2] [] ?_|refine nc ?_);simp (maxSteps := 1000000) [hF, dHb, zH])
 (try refine nr ?_);(repeat first|refine nb_ ?_|refine nl_ ?_);refine endK.o [2] [] [] ?_;simp [hF, retK, covers, mpre]
theorem Live_y : Meets Try.prog 19 [dHp zH] (.cons (.ptr 0 [.d]) .nil) fun av X κ => av = .nils 1 ∧ X = [dHp zH] ∧ κ = [] :=
 warmH (Live_z) rfl rfl (by simp) rfl
/- (*cabochon/heap.Heap).All -/
theorem All_n : Meets Try.prog 17 [] (.cons avNil .nil) fun av X κ => av = .nils 1 ∧ X = [] ∧ κ = [] := by
 refine fb Try.func17 Try.ntmps17 [.tmp 2] fun w0 I0 F0 hF => ?_
 repeat first|refine n1 ?_|((first|refine rg 0 [0] [0] [] ?_|refine rg 1 [0] [0, 10] [] ?_);simp (maxSteps := 1000000) [hF])
 refine (real_n).go [] (by simp (maxSteps := 1000000) [hF]) ?_;rintro av X κ ⟨rfl, rfl, rfl⟩;simp (maxSteps := 1000000) [hF]
 repeat first|refine n1 ?_|((first|refine rg 2 [] [2] [] ?_|refine nc ?_);simp (maxSteps := 1000000) [hF])
 (try refine nr ?_);(repeat first|refine nb_ ?_|refine nl_ ?_);refine endK.o [2] [] [] ?_;simp [hF, retK, covers, mpre]
/- (*cabochon/heap.Heap).All -/
theorem All_z : Meets Try.prog 17 [] (.cons (avH zH) .nil) fun av X κ => av = .nils 1 ∧ X = [] ∧ κ = [] := by
 refine fb Try.func17 Try.ntmps17 [.tmp 2] fun w0 I0 F0 hF => ?_
 repeat first|refine n1 ?_|((first|refine rg 0 [0] [0] [] ?_|refine rg 1 [0] [0, 10] [] ?_);simp (maxSteps := 1000000) [hF, dHb, zH])
 refine (real_z).go [] (by simp (maxSteps := 1000000) [hF, dHb, zH]) ?_;rintro av X κ ⟨rfl, rfl, rfl⟩;simp (maxSteps := 1000000) [hF, dHb, zH]
 repeat first|refine n1 ?_|((first|refine rg 2 [] [2] [] ?_|refine nc ?_);simp (maxSteps := 1000000) [hF, dHb, zH])
 (try refine nr ?_);(repeat first|refine nb_ ?_|refine nl_ ?_);refine endK.o [2] [] [] ?_;simp [hF, retK, covers, mpre]
theorem All_y : Meets Try.prog 17 [dHp zH] (.cons (.ptr 0 [.d]) .nil) fun av X κ => av = .nils 1 ∧ X = [dHp zH] ∧ κ = [] :=
 warmH (All_z) rfl rfl (by simp) rfl
/- (*cabochon/heap.Heap).Weaks -/
theorem Weaks_n : Meets Try.prog 11 [] (.cons avNil .nil) fun av X κ => av = .nils 2 ∧ X = [] ∧ κ = [] := by
 refine fb Try.func11 Try.ntmps11 [.tmp 2] fun w0 I0 F0 hF => ?_
 repeat first|refine n1 ?_|((first|refine rg 0 [0] [0] [] ?_|refine rg 1 [0] [0, 8] [] ?_);simp (maxSteps := 1000000) [hF])
 refine (real_n).go [] (by simp (maxSteps := 1000000) [hF]) ?_;rintro av X κ ⟨rfl, rfl, rfl⟩;simp (maxSteps := 1000000) [hF]
 repeat first|refine n1 ?_|((first|refine rg 2 [] [2] [] ?_|refine nc ?_);simp (maxSteps := 1000000) [hF])
 (try refine nr ?_);(repeat first|refine nb_ ?_|refine nl_ ?_);refine endK.o [2] [] [] ?_;simp [hF, retK, covers, mpre]
/- (*cabochon/heap.Heap).Weaks -/
theorem Weaks_z : Meets Try.prog 11 [] (.cons (avH zH) .nil) fun av X κ => av = .nils 2 ∧ X = [] ∧ κ = [] := by
 refine fb Try.func11 Try.ntmps11 [.tmp 2] fun w0 I0 F0 hF => ?_
 repeat first|refine n1 ?_|((first|refine rg 0 [0] [0] [] ?_|refine rg 1 [0] [0, 8] [] ?_);simp (maxSteps := 1000000) [hF, dHb, zH])
 refine (real_z).go [] (by simp (maxSteps := 1000000) [hF, dHb, zH]) ?_;rintro av X κ ⟨rfl, rfl, rfl⟩;simp (maxSteps := 1000000) [hF, dHb, zH]
 repeat first|refine n1 ?_|((first|refine rg 2 [] [2] [] ?_|refine nc ?_);simp (maxSteps := 1000000) [hF, dHb, zH])
 (try refine nr ?_);(repeat first|refine nb_ ?_|refine nl_ ?_);refine endK.o [2] [] [] ?_;simp [hF, retK, covers, mpre]
theorem Weaks_y : Meets Try.prog 11 [dHp zH] (.cons (.ptr 0 [.d]) .nil) fun av X κ => av = .nils 2 ∧ X = [dHp zH] ∧ κ = [] :=
 warmH (Weaks_z) rfl rfl (by simp) rfl
/- (*cabochon/heap.Heap).Used -/
theorem Used_n : Meets Try.prog 25 [] (.cons avNil .nil) fun av X κ => av = two (0, 0) ∧ X = [] ∧ κ = [] := by
 refine fb Try.func25 Try.ntmps25 [.tmp 2, .tmp 3] fun w0 I0 F0 hF => ?_
 repeat first|refine n1 ?_|((first|refine rg 0 [0] [0] [] ?_|refine rg 1 [0] [0, 6] [] ?_);simp (maxSteps := 1000000) [hF])
 refine (real_n).go [] (by simp (maxSteps := 1000000) [hF]) ?_;rintro av X κ ⟨rfl, rfl, rfl⟩;simp (maxSteps := 1000000) [hF]
 repeat first|refine n1 ?_|((first|refine rg 2 [] [2, 3] [] ?_|refine nc ?_);simp (maxSteps := 1000000) [hF])
 (try refine nr ?_);(repeat first|refine nb_ ?_|refine nl_ ?_);refine endK.o [2, 3] [] [] ?_;simp [hF, retK, covers, mpre]
/- (*cabochon/heap.Heap).Used -/
theorem Used_z : Meets Try.prog 25 [] (.cons (avH zH) .nil) fun av X κ => av = two (0, 0) ∧ X = [] ∧ κ = [] := by
 refine fb Try.func25 Try.ntmps25 [.tmp 2, .tmp 3] fun w0 I0 F0 hF => ?_
 repeat first|refine n1 ?_|((first|refine rg 0 [0] [0] [] ?_|refine rg 1 [0] [0, 6] [] ?_);simp (maxSteps := 1000000) [hF, dHb, zH])
 refine (real_z).go [] (by simp (maxSteps := 1000000) [hF, dHb, zH]) ?_;rintro av X κ ⟨rfl, rfl, rfl⟩;simp (maxSteps := 1000000) [hF, dHb, zH]
 repeat first|refine n1 ?_|((first|refine rg 2 [] [2, 3] [] ?_|refine nc ?_);simp (maxSteps := 1000000) [hF, dHb, zH])
 (try refine nr ?_);(repeat first|refine nb_ ?_|refine nl_ ?_);refine endK.o [2, 3] [] [] ?_;simp [hF, retK, covers, mpre]
theorem Used_y : Meets Try.prog 25 [dHp zH] (.cons (.ptr 0 [.d]) .nil) fun av X κ => av = two (0, 0) ∧ X = [dHp zH] ∧ κ = [] :=
 warmH (Used_z) rfl rfl (by simp) rfl
/- (*cabochon/heap.Heap).Copy -/
theorem Copy_n : Meets Try.prog 36 [] (.cons avNil .nil) fun av X κ => av = avNil ∧ X = [] ∧ κ = [] := by
 refine fb Try.func36 Try.ntmps36 [.tmp 2] fun w0 I0 F0 hF => ?_
 repeat first|refine n1 ?_|((first|refine rg 0 [0] [0] [] ?_|refine rg 1 [0] [0, 9] [] ?_);simp (maxSteps := 1000000) [hF])
 refine (real_n).go [] (by simp (maxSteps := 1000000) [hF]) ?_;rintro av X κ ⟨rfl, rfl, rfl⟩;simp (maxSteps := 1000000) [hF]
 repeat first|refine n1 ?_|((first|refine rg 2 [] [2] [] ?_|refine nc ?_);simp (maxSteps := 1000000) [hF])
 (try refine nr ?_);(repeat first|refine nb_ ?_|refine nl_ ?_);refine endK.o [2] [] [] ?_;simp [hF, retK, covers, mpre]
/- (*cabochon/heap.Heap).Copy -/
theorem Copy_z : Meets Try.prog 36 [] (.cons (avH zH) .nil) fun av X κ => av = avNil ∧ X = [] ∧ κ = [] := by
 refine fb Try.func36 Try.ntmps36 [.tmp 2] fun w0 I0 F0 hF => ?_
 repeat first|refine n1 ?_|((first|refine rg 0 [0] [0] [] ?_|refine rg 1 [0] [0, 9] [] ?_);simp (maxSteps := 1000000) [hF, dHb, zH])
 refine (real_z).go [] (by simp (maxSteps := 1000000) [hF, dHb, zH]) ?_;rintro av X κ ⟨rfl, rfl, rfl⟩;simp (maxSteps := 1000000) [hF, dHb, zH]
 repeat first|refine n1 ?_|((first|refine rg 2 [] [2] [] ?_|refine nc ?_);simp (maxSteps := 1000000) [hF, dHb, zH])
 (try refine nr ?_);(repeat first|refine nb_ ?_|refine nl_ ?_);refine endK.o [2] [] [] ?_;simp [hF, retK, covers, mpre]
theorem Copy_y : Meets Try.prog 36 [dHp zH] (.cons (.ptr 0 [.d]) .nil) fun av X κ => av = avNil ∧ X = [dHp zH] ∧ κ = [] :=
 warmH (Copy_z) rfl rfl (by simp) rfl
def dOnes (n : Nat) : D := dInts (List.replicate n 1)
@[simp] theorem dOnes_len (n : Nat) : (dOnes n).len = n := by simp [dOnes]
theorem dOnes_nth {n j : Nat} (h : j < n) : (dOnes n).nth j = .val (.int .i64 1) := by rw [dOnes, dInts_nth (by simpa using h)]; simp
/- cabochon/cabochonlaw27.HeapNothing -/
theorem nothing_ok (a b c : Int) : Meets Try.prog 9 [] (.cons (avInt a) (.cons (avInt b) (.cons (avInt c) .nil))) fun av X κ => av = .val (.bool true) := by
 have w00 : IntKind.i64.wrap 0 = 0 := by decide
 have hN : dHp zH = .box true () (.agg (.cons (.agg (.cons (.val (.int .i64 0)) (.cons (.val (.int .i64 0)) .nil))) (.cons (.agg (.cons (.sl true () 3 .nil) (.cons (.sl true () 3 .nil) .nil))) (.cons (.val (.int .i64 0)) (.cons (.sl true () 1 .nil) (.cons (.sl true () 2 .nil) (.cons (.sl true () 2 .nil) (.cons (.sl true () 1 .nil) .nil)))))))) := rfl
 refine fb Try.func9 Try.ntmps9 [.tmp 6] fun w0 I0 F0 hF => ?_
 repeat first|refine n1 ?_|refine n3 ?_|((first|refine rg 0 [0, 1, 2] [0, 1, 2] [] ?_|refine rg 1 [0, 1, 2] [0, 1, 2, 7] [] ?_|refine rg 2 [0, 1, 2, 7] [0, 1, 2, 7, 8] [] ?_);simp (maxSteps := 1000000) [hF])
 refine VS.rounds (fun m st => ∃ (k : Nat), k + m = 2 ∧ st = ⟨[(0, avInt a), (1, avInt b), (2, avInt c), (7, avNil), (8, avInt k)], [], [], []⟩) ⟨2, 0, by omega, by simp⟩ ?_
 rintro m st ⟨k, hk, rfl⟩
 have hk3 : k = 0 ∨ k = 1 ∨ k = 2 := by omega
 rcases hk3 with rfl | rfl | rfl
 ·repeat first|refine n1 ?_|refine n2 ?_|refine n3 ?_|((first|refine rg 3 [0, 1, 2, 7, 8] [0, 1, 2, 7, 8, 31] [] ?_|refine rg 5 [0, 1, 2, 7, 8] [0, 1, 2, 7, 8, 9] [] ?_|refine rg 6 [0, 1, 2, 7, 8, 9] [0, 1, 2, 7, 8, 9, 36] [] ?_|refine rg 8 [0, 1, 2, 7, 8, 9] [0, 1, 2, 7, 8, 9, 11] [] ?_|refine nc ?_);simp (maxSteps := 1000000) [hF])
  refine (Make_n a).go [] (by simp (maxSteps := 1000000) [hF]) ?_;rintro av X κ ⟨rfl, rfl, rfl⟩;simp (maxSteps := 1000000) [hF]
  repeat first|refine n1 ?_|(refine rg 9 [0, 1, 2, 7, 8, 9, 11] [0, 1, 2, 7, 8, 9, 11, 13] [] ?_;simp (maxSteps := 1000000) [hF])
  refine (Get_n a b).go [] (by simp (maxSteps := 1000000) [hF]) ?_;rintro av X κ ⟨rfl, rfl, rfl⟩;simp (maxSteps := 1000000) [hF]
  repeat first|refine n1 ?_|(refine rg 10 [0, 1, 2, 7, 8, 9, 11, 13] [0, 1, 2, 7, 8, 9, 11, 13, 15] [] ?_;simp (maxSteps := 1000000) [hF])
  refine (Minor_n).go [] (by simp (maxSteps := 1000000) [hF]) ?_;rintro av X κ ⟨rfl, rfl, rfl⟩;simp (maxSteps := 1000000) [hF]
  repeat first|refine n1 ?_|(refine rg 11 [0, 1, 2, 7, 8, 9, 11, 13, 15] [0, 1, 2, 7, 8, 9, 11, 13, 15, 17] [] ?_;simp (maxSteps := 1000000) [hF])
  refine (Major_n).go [] (by simp (maxSteps := 1000000) [hF]) ?_;rintro av X κ ⟨rfl, rfl, rfl⟩;simp (maxSteps := 1000000) [hF]
  repeat first|refine n1 ?_|(refine rg 12 [0, 1, 2, 7, 8, 9, 11, 13, 15, 17] [0, 1, 2, 7, 8, 9, 11, 13, 15, 17, 19] [] ?_;simp (maxSteps := 1000000) [hF])
  refine (Weak_n a b).go [] (by simp (maxSteps := 1000000) [hF]) ?_;rintro av X κ ⟨rfl, rfl, rfl⟩;simp (maxSteps := 1000000) [hF]
  repeat first|refine n1 ?_|(refine rg 13 [0, 1, 2, 7, 8, 9, 11, 13, 15, 17, 19] [0, 1, 2, 7, 8, 9, 11, 13, 15, 17, 19, 21] [] ?_;simp (maxSteps := 1000000) [hF])
  refine (Take_n).go [] (by simp (maxSteps := 1000000) [hF]) ?_;rintro av X κ ⟨rfl, rfl, rfl⟩;simp (maxSteps := 1000000) [hF]
  repeat first|refine n1 ?_|(refine rg 14 [0, 1, 2, 7, 8, 9, 11, 13, 15, 17, 19, 21] [0, 1, 2, 7, 8, 9, 11, 13, 15, 17, 19, 21, 25] [] ?_;simp (maxSteps := 1000000) [hF])
  refine (Place_n a).go [] (by simp (maxSteps := 1000000) [hF]) ?_;rintro av X κ ⟨rfl, rfl, rfl⟩;simp (maxSteps := 1000000) [hF]
  repeat first|refine n1 ?_|(refine rg 15 [0, 1, 2, 7, 8, 9, 11, 13, 15, 17, 19, 21, 25] [0, 1, 2, 7, 8, 9, 26] [] ?_;simp (maxSteps := 1000000) [hF])
  refine (Set_n a b c).go [] (by simp (maxSteps := 1000000) [hF]) ?_;rintro av X κ ⟨rfl, rfl, rfl⟩;simp (maxSteps := 1000000) [hF]
  refine (Roots_n).go [] (by simp (maxSteps := 1000000) [hF]) ?_;rintro av X κ ⟨rfl, rfl, rfl⟩;simp (maxSteps := 1000000) [hF]
  refine (Final_n a b).go [] (by simp (maxSteps := 1000000) [hF]) ?_;rintro av X κ ⟨rfl, rfl, rfl⟩;simp (maxSteps := 1000000) [hF]
  repeat first|refine n1 ?_|refine n3 ?_|(refine rg 16 [0, 1, 2, 7, 8, 9, 26] [0, 1, 2, 7, 8, 9, 26, 27] [] ?_;simp (maxSteps := 1000000) [hF])
  refine VS.pick [0, 1, 2, 7, 8, 9, 26, 27] [0] (by simp [hF]) ?_;simp [hF]
  refine VS.rounds (fun m2 st => ∃ (j : Nat), j + m2 = 10 ∧ st = ⟨[(0, avInt a), (1, avInt b), (2, avInt c), (7, avNil), (8, avInt 0), (9, avNil), (26, .sub 0 [] 0 10 true), (27, avInt j)], [.sl true () 1 (dOnes 10)], [], []⟩) ⟨10, 0, by omega, by simp [dOnes, dInts, sq, dInt, List.replicate]; try rfl⟩ ?_
  rintro m2 st ⟨j, hj, rfl⟩
  repeat first|refine n1 ?_|((first|refine rg 17 [0, 1, 2, 7, 8, 9, 26, 27] [0, 1, 2, 7, 8, 9, 26, 27, 104] [] ?_|refine nc ?_);simp (maxSteps := 1000000) [hF])
  refine ⟨fun hlt => ?_, fun hge => ?_⟩
  ·have hlt' : j < 10 := by omega
   have hn := dOnes_nth hlt'
   have hw1 : IntKind.i64.wrap ((j : Int) + 1) = (j + 1 : Nat) := by rw [IntWalk.i64_in _ (by omega)]; rfl
   repeat first|refine n1 ?_|refine n2 ?_|refine n3 ?_|refine n4 ?_|refine n5 ?_|refine n6 ?_|((first|refine rg 18 [0, 1, 2, 7, 8, 9, 26, 27] [0, 1, 2, 7, 8, 9, 26, 27] [] ?_|refine rg 19 [0, 1, 2, 7, 8, 9, 26, 27] [0, 1, 2, 7, 8, 9, 26, 27, 111] [] ?_|refine nc ?_);simp (maxSteps := 1000000) [hF, hn, hlt, hlt', hw1])
   refine nextK.of [0, 1, 2, 7, 8, 9, 26, 27] [0] (m2 - 1) (by omega) (by simp [hF]) ?_
   refine ⟨j + 1, by omega, ?_⟩
   simp [hN]
  ·repeat first|refine n1 ?_|refine n7 ?_|(refine rg 21 [0, 1, 2, 7, 8, 9] [0, 1, 2, 7, 8, 9, 28, 29] [] ?_;simp (maxSteps := 1000000) [hF])
   refine (Used_n).go [] (by simp (maxSteps := 1000000) [hF, w00]) ?_;rintro av X κ ⟨rfl, rfl, rfl⟩;simp (maxSteps := 1000000) [hF, w00]
   repeat first|refine n1 ?_|(refine rg 22 [0, 1, 2, 7, 8, 9, 28, 29] [0, 1, 2, 7, 8, 145] [(2, 119), (6, 123), (24, 141)] ?_;simp (maxSteps := 1000000) [hF, w00])
   refine (All_n).go [] (by simp (maxSteps := 1000000) [hF, w00]) ?_;rintro av X κ ⟨rfl, rfl, rfl⟩;simp (maxSteps := 1000000) [hF, w00]
   refine (Live_n).go [] (by simp (maxSteps := 1000000) [hF, w00]) ?_;rintro av X κ ⟨rfl, rfl, rfl⟩;simp (maxSteps := 1000000) [hF, w00]
   refine (Remembered_n).go [] (by simp (maxSteps := 1000000) [hF, w00]) ?_;rintro av X κ ⟨rfl, rfl, rfl⟩;simp (maxSteps := 1000000) [hF, w00]
   refine (Weaks_n).go [] (by simp (maxSteps := 1000000) [hF, w00]) ?_;rintro av X κ ⟨rfl, rfl, rfl⟩;simp (maxSteps := 1000000) [hF, w00]
   refine (Copy_n).go [] (by simp (maxSteps := 1000000) [hF, w00]) ?_;rintro av X κ ⟨rfl, rfl, rfl⟩;simp (maxSteps := 1000000) [hF, w00]
   repeat first|refine n2 ?_|refine n4 ?_|refine n5 ?_|refine n6 ?_|((first|refine rg 4 [0, 1, 2, 7, 8] [0, 1, 2, 7, 8] [] ?_|refine nc ?_);simp (maxSteps := 1000000) [hF, w00])
   refine nextK.of [0, 1, 2, 7, 8] [] (1) (by omega) (by simp [hF]) ?_
   exact ⟨1, rfl, rfl⟩
 ·repeat first|refine n1 ?_|refine n2 ?_|refine n3 ?_|((first|refine rg 3 [0, 1, 2, 7, 8] [0, 1, 2, 7, 8, 31] [] ?_|refine rg 5 [0, 1, 2, 7, 8] [0, 1, 2, 7, 8, 9] [] ?_|refine rg 6 [0, 1, 2, 7, 8, 9] [0, 1, 2, 7, 8, 9, 36] [] ?_|refine rg 7 [0, 1, 2, 7, 8] [0, 1, 2, 7, 8, 9] [] ?_|refine rg 8 [0, 1, 2, 7, 8, 9] [0, 1, 2, 7, 8, 9, 11] [] ?_|refine nc ?_);simp (maxSteps := 1000000) [hF])
  refine (Make_y a).go [(0, [])] (by simp (maxSteps := 1000000) [hF, hN]) ?_;rintro av X κ ⟨rfl, rfl, rfl⟩;simp (maxSteps := 1000000) [hF, hN]
  repeat first|refine n1 ?_|(refine rg 9 [0, 1, 2, 7, 8, 9, 11] [0, 1, 2, 7, 8, 9, 11, 13] [] ?_;simp (maxSteps := 1000000) [hF, hN])
  refine (Get_y a b).go [(0, [])] (by simp (maxSteps := 1000000) [hF, hN]) ?_;rintro av X κ ⟨rfl, rfl, rfl⟩;simp (maxSteps := 1000000) [hF, hN]
  repeat first|refine n1 ?_|(refine rg 10 [0, 1, 2, 7, 8, 9, 11, 13] [0, 1, 2, 7, 8, 9, 11, 13, 15] [] ?_;simp (maxSteps := 1000000) [hF, hN])
  refine (Minor_y).go [(0, [])] (by simp (maxSteps := 1000000) [hF, hN]) ?_;rintro av X κ ⟨rfl, rfl, rfl⟩;simp (maxSteps := 1000000) [hF, hN]
  repeat first|refine n1 ?_|(refine rg 11 [0, 1, 2, 7, 8, 9, 11, 13, 15] [0, 1, 2, 7, 8, 9, 11, 13, 15, 17] [] ?_;simp (maxSteps := 1000000) [hF, hN])
  refine (Major_y).go [(0, [])] (by simp (maxSteps := 1000000) [hF, hN]) ?_;rintro av X κ ⟨rfl, rfl, rfl⟩;simp (maxSteps := 1000000) [hF, hN]
  repeat first|refine n1 ?_|(refine rg 12 [0, 1, 2, 7, 8, 9, 11, 13, 15, 17] [0, 1, 2, 7, 8, 9, 11, 13, 15, 17, 19] [] ?_;simp (maxSteps := 1000000) [hF, hN])
  refine (Weak_y a b).go [(0, [])] (by simp (maxSteps := 1000000) [hF, hN]) ?_;rintro av X κ ⟨rfl, rfl, rfl⟩;simp (maxSteps := 1000000) [hF, hN]
  repeat first|refine n1 ?_|(refine rg 13 [0, 1, 2, 7, 8, 9, 11, 13, 15, 17, 19] [0, 1, 2, 7, 8, 9, 11, 13, 15, 17, 19, 21] [] ?_;simp (maxSteps := 1000000) [hF, hN])
  refine (Take_y).go [(0, [])] (by simp (maxSteps := 1000000) [hF, hN]) ?_;rintro av X κ ⟨rfl, rfl, rfl⟩;simp (maxSteps := 1000000) [hF, hN]
  repeat first|refine n1 ?_|(refine rg 14 [0, 1, 2, 7, 8, 9, 11, 13, 15, 17, 19, 21] [0, 1, 2, 7, 8, 9, 11, 13, 15, 17, 19, 21, 25] [] ?_;simp (maxSteps := 1000000) [hF, hN])
  refine (Place_y a).go [(0, [])] (by simp (maxSteps := 1000000) [hF, hN]) ?_;rintro av X κ ⟨rfl, rfl, rfl⟩;simp (maxSteps := 1000000) [hF, hN]
  repeat first|refine n1 ?_|(refine rg 15 [0, 1, 2, 7, 8, 9, 11, 13, 15, 17, 19, 21, 25] [0, 1, 2, 7, 8, 9, 26] [] ?_;simp (maxSteps := 1000000) [hF, hN])
  refine (Set_y a b c).go [(0, [])] (by simp (maxSteps := 1000000) [hF, hN]) ?_;rintro av X κ ⟨rfl, rfl, rfl⟩;simp (maxSteps := 1000000) [hF, hN]
  refine (Roots_y).go [(0, [])] (by simp (maxSteps := 1000000) [hF, hN]) ?_;rintro av X κ ⟨rfl, rfl, rfl⟩;simp (maxSteps := 1000000) [hF, hN]
  refine (Final_y a b).go [(0, [])] (by simp (maxSteps := 1000000) [hF, hN]) ?_;rintro av X κ ⟨rfl, rfl, rfl⟩;simp (maxSteps := 1000000) [hF, hN]
  repeat first|refine n1 ?_|refine n3 ?_|(refine rg 16 [0, 1, 2, 7, 8, 9, 26] [0, 1, 2, 7, 8, 9, 26, 27] [] ?_;simp (maxSteps := 1000000) [hF, hN])
  refine VS.pick [0, 1, 2, 7, 8, 9, 26, 27] [0, 1] (by simp [hF]) ?_;simp [hF]
  refine VS.rounds (fun m2 st => ∃ (j : Nat), j + m2 = 10 ∧ st = ⟨[(0, avInt a), (1, avInt b), (2, avInt c), (7, avNil), (8, avInt 1), (9, .ptr 0 [.d]), (26, .sub 1 [] 0 10 true), (27, avInt j)], [dHp zH, .sl true () 1 (dOnes 10)], [], []⟩) ⟨10, 0, by omega, by simp [dOnes, dInts, sq, dInt, List.replicate, hN]; try rfl⟩ ?_
  rintro m2 st ⟨j, hj, rfl⟩
  repeat first|refine n1 ?_|((first|refine rg 17 [0, 1, 2, 7, 8, 9, 26, 27] [0, 1, 2, 7, 8, 9, 26, 27, 104] [] ?_|refine nc ?_);simp (maxSteps := 1000000) [hF])
  refine ⟨fun hlt => ?_, fun hge => ?_⟩
  ·have hlt' : j < 10 := by omega
   have hn := dOnes_nth hlt'
   have hw1 : IntKind.i64.wrap ((j : Int) + 1) = (j + 1 : Nat) := by rw [IntWalk.i64_in _ (by omega)]; rfl
   repeat first|refine n1 ?_|refine n2 ?_|refine n3 ?_|refine n4 ?_|refine n5 ?_|refine n6 ?_|((first|refine rg 18 [0, 1, 2, 7, 8, 9, 26, 27] [0, 1, 2, 7, 8, 9, 26, 27] [] ?_|refine rg 19 [0, 1, 2, 7, 8, 9, 26, 27] [0, 1, 2, 7, 8, 9, 26, 27, 111] [] ?_|refine nc ?_);simp (maxSteps := 1000000) [hF, hn, hlt, hlt', hw1])
   refine nextK.of [0, 1, 2, 7, 8, 9, 26, 27] [0, 1] (m2 - 1) (by omega) (by simp [hF]) ?_
   refine ⟨j + 1, by omega, ?_⟩
   simp [hN]
  ·repeat first|refine n1 ?_|refine n7 ?_|(refine rg 21 [0, 1, 2, 7, 8, 9] [0, 1, 2, 7, 8, 9, 28, 29] [] ?_;simp (maxSteps := 1000000) [hF])
   refine (Used_y).go [(0, [])] (by simp (maxSteps := 1000000) [hF, w00, hN]) ?_;rintro av X κ ⟨rfl, rfl, rfl⟩;simp (maxSteps := 1000000) [hF, w00, hN]
   repeat first|refine n1 ?_|(refine rg 22 [0, 1, 2, 7, 8, 9, 28, 29] [0, 1, 2, 7, 8, 145] [(2, 119), (6, 123), (24, 141)] ?_;simp (maxSteps := 1000000) [hF, w00, hN])
   refine (All_y).go [(0, [])] (by simp (maxSteps := 1000000) [hF, w00, hN]) ?_;rintro av X κ ⟨rfl, rfl, rfl⟩;simp (maxSteps := 1000000) [hF, w00, hN]
   refine (Live_y).go [(0, [])] (by simp (maxSteps := 1000000) [hF, w00, hN]) ?_;rintro av X κ ⟨rfl, rfl, rfl⟩;simp (maxSteps := 1000000) [hF, w00, hN]
   refine (Remembered_y).go [(0, [])] (by simp (maxSteps := 1000000) [hF, w00, hN]) ?_;rintro av X κ ⟨rfl, rfl, rfl⟩;simp (maxSteps := 1000000) [hF, w00, hN]
   refine (Weaks_y).go [(0, [])] (by simp (maxSteps := 1000000) [hF, w00, hN]) ?_;rintro av X κ ⟨rfl, rfl, rfl⟩;simp (maxSteps := 1000000) [hF, w00, hN]
   refine (Copy_y).go [(0, [])] (by simp (maxSteps := 1000000) [hF, w00, hN]) ?_;rintro av X κ ⟨rfl, rfl, rfl⟩;simp (maxSteps := 1000000) [hF, w00, hN]
   repeat first|refine n2 ?_|refine n4 ?_|refine n5 ?_|refine n6 ?_|((first|refine rg 4 [0, 1, 2, 7, 8] [0, 1, 2, 7, 8] [] ?_|refine nc ?_);simp (maxSteps := 1000000) [hF, w00, hN])
   refine nextK.of [0, 1, 2, 7, 8] [] (0) (by omega) (by simp [hF]) ?_
   exact ⟨2, rfl, rfl⟩
 ·repeat first|refine n1 ?_|refine n7 ?_|((first|refine rg 3 [0, 1, 2, 7, 8] [0, 1, 2, 7, 8, 31] [] ?_|refine rg 24 [] [6] [] ?_|refine nc ?_);simp (maxSteps := 1000000) [hF])
  refine (sane_ok).go [] (by simp (maxSteps := 1000000) [hF]) ?_;rintro av X κ ⟨rfl, rfl, rfl⟩;simp (maxSteps := 1000000) [hF]
  (try refine nr ?_);(repeat first|refine nb_ ?_|refine nl_ ?_);refine endK.o [6] [] [] ?_;simp [hF, retK, covers, mpre]
end Go.Proofs.Ytfdcfjjobdnofaa

/- Proved: HeapNothing returns true for every input, and its arguments read behind the call as before. No condition. -/
namespace Go.Proofs.Ytfdcfjjobdnofaa.heapNothing
set_option linter.all false
open Go.Vc Go.ChangeShapes Go.WideShapes Go.ChangeAt Go.RowKit
set_option linter.unusedVariables false

theorem own : ownKnob Try.prog.godebug = none := by kernel_rfl
theorem laid : laidOutB Try.prog = true := by kernel_rfl

set_option maxRecDepth 100000 in
theorem lifted (os : Os) (started : os.Started) (H : Type) (enc : TypeId × Value → H) :
    ReturnsInHanded {} Try.checked os 9 .any (Rows.heapNothingSpec.pre6 enc Try.prog Try.f9 Rows.heapNothingRow.domain false) (Rows.heapNothingSpec.post enc Try.prog Try.f9 false true false false) := by
  refine returnsInHanded_of_change (C := Try.checked) own started (by kernel_rfl) Try.func9
    (ChangeSpec.witness6 (enc := enc) (C := Try.checked) false ⟨#[], #[.int .i64 0, .int .i64 0, .int .i64 0], []⟩ 8 (by kernel_rfl) (by kernel_rfl) (by kernel_rfl) (by kernel_rfl)) ?_
  intro W base args ds gs before hval0 hW hcnd _
  have hval : ∀ (j : Nat) t v, Try.f9.params[j]? = some t → args[j]? = some v → Value.okWide Try.prog W .any base t v := hval0
  have hW' := hW
  obtain ⟨p, q, hA0, hV, rfl, hfz, hnd⟩ := hW
  have hA : DataW.TrodAll enc Try.prog W 0 (fun _ => true) true Try.f9.params.toList args.toList ds p := hA0
  rw [Try.params9] at hA hval
  obtain ⟨v0, vs0, d0, ds0, p0, q0, hargs0, rfl, rfl, h0, r0⟩ := trodAll_cons hA
  obtain ⟨v1, vs1, d1, ds1, p1, q1, hargs1, rfl, rfl, h1, r1⟩ := trodAll_cons r0
  obtain ⟨v2, vs2, d2, ds2, p2, q2, hargs2, rfl, rfl, h2, r2⟩ := trodAll_cons r1
  obtain ⟨rfl, rfl, rfl⟩ := trodAll_nil r2
  subst hargs2
  subst hargs1
  obtain rfl : args = #[v0, v1, v2] := by cases args; simp_all
  obtain ⟨rfl, rfl⟩ := trodVars_none hV
  obtain ⟨a0, hr0⟩ := int_of (hval 0 3 v0 rfl rfl) h0
  obtain ⟨a1, hr1⟩ := int_of (hval 1 3 v1 rfl rfl) h1
  obtain ⟨a2, hr2⟩ := int_of (hval 2 3 v2 rfl rfl) h2
  clear hA0 hval0
  have hwalk : Calls Try.prog 9 #[v0, v1, v2] W fun e w' => e = .returned (.bool true) ∧ Below W.heap.size W w' :=
    Meets.law (nothing_ok a0 a1 a2) (vs := [v0, v1, v2]) (I := allB W) (fun _ h => h) ⟨v0, _, rfl, hr0, ⟨v1, _, rfl, hr1, ⟨v2, _, rfl, hr2, rfl⟩⟩⟩
  refine hwalk.mono fun e W' ⟨he, bel⟩ => ?_
  subst he
  exact ⟨_, rfl, _, _, _, [], _, [], hW', trodAll_mk1 (shut_bool Try.underlying4 _), (trodAll_cons_mk (Below.trod laid (by kernel_rfl) (of_decide_eq_true (by kernel_rfl)) h0 bel fun x hx => hW'.lt x (by simp [hx])) (trodAll_cons_mk (Below.trod laid (by kernel_rfl) (of_decide_eq_true (by kernel_rfl)) h1 bel fun x hx => hW'.lt x (by simp [hx])) (trodAll_cons_mk (Below.trod laid (by kernel_rfl) (of_decide_eq_true (by kernel_rfl)) h2 bel fun x hx => hW'.lt x (by simp [hx])) trodAll_mk0))), rfl, bel.frame _, fun h => by cases h⟩

theorem over : Rows.heapNothingRow.holds Try.pinned (OpenSpec.ofChange Rows.heapNothingSpec) :=
  OpenClaim.holds_of_wide 9 Try.f9 rfl rfl rfl rfl rfl rfl rfl ⟨rfl, rfl, rfl, rfl, rfl⟩ rfl rfl rfl rfl rfl (by kernel_rfl) Try.func9 (by kernel_rfl)
    (of_decide_eq_true (by kernel_rfl)) (by unfold Func.isWrapper; first | (rw [if_pos (by decide +kernel)]; kernel_rfl) | (rw [if_neg (by decide +kernel)]; exact ⟨rfl, rfl⟩))
    (fun os started H enc _ => lifted os started H enc)

/-- THE STATEMENT -/
theorem proved : Rows.HeapNothingSaid :=
  over
end Go.Proofs.Ytfdcfjjobdnofaa.heapNothing
