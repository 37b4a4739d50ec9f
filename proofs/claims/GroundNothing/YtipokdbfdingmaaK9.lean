/- What is asked of no book, and of one that was not made. -/
import Derived.Test.YtipokdbfdingmaaK6
import Derived.Test.YtipokdbfdingmaaK7
import Derived.Test.YtipokdbfdingmaaRows
import Derived.Test.YtipokdbfdingmaaK8
import Derived.WalkKit
import Derived.ProofKit
import Derived.OpenShut
import Derived.ShutString
import Derived.ChangeOld
import Derived.Carry
namespace Go.Proofs.Ytipokdbfdingmaa
set_option linter.all false
open Go.Vc Go.Proofs
set_option linter.unusedSimpArgs false
set_option linter.unusedVariables false
set_option maxRecDepth 100000
set_option maxHeartbeats 4000000
attribute [local irreducible] CallW EqK
def dZb (o : Bool) : D := .agg (.cons (.sl o () 3 .nil) (.cons (.val (.map none)) .nil))
def dZ : D := .box true () (dZb true)
abbrev avZ : AV := .iptr (dZb false)
@[simp high] theorem head_dZ : isHead dZ = true := by rw [dZ, isHead]
@[simp] theorem own_dZ : dZ.allOwn = true := rfl
theorem chillZ {t : AV} : (AV.cons (.ptr 0 [.d]) t).chilled dZ = .cons avZ (t.chilled dZ) := rfl
theorem warmZ {f : FuncId} {Y Z : List D} {t t0 a a' : AV} (hm : Meets Try.prog f Y (.cons avZ t0) fun av X κ => av = a ∧ X = Z ∧ κ = []) (ht : t.chilled dZ = t0) (ha : a.plain = true) (hZ : ∀ x ∈ Z, x.allOwn = true) (he : a.emb [] 1 = a') :
  Meets Try.prog f (dZ :: Y) (.cons (.ptr 0 [.d]) t) fun av X κ => av = a' ∧ X = dZ :: Z ∧ κ = [] := by
 have e : (AV.cons (.ptr 0 [.d]) t).chilled dZ = .cons avZ t0 := by rw [chillZ, ht]
 refine Meets.mono (Meets.warm (d0 := dZ) (Y := Y) (t := .cons (.ptr 0 [.d]) t) (by rw [e]; exact hm) ?_) ?_
 ·rintro av X κ ⟨rfl, rfl, rfl⟩
  exact ⟨ha, hZ, rfl⟩
 ·rintro av X κ ⟨av0, X0, ⟨rfl, rfl, _⟩, rfl, rfl, rfl⟩
  exact ⟨he, rfl, rfl⟩
theorem real_n : Meets Try.prog 33 [] (.cons avNil .nil) fun av X κ => av = avBool false ∧ X = [] ∧ κ = [] := by
 refine fb Try.func33 Try.ntmps33 [.tmp 2] fun w0 I0 F0 hF => ?_
 repeat first|refine n1 ?_|((first|refine rg 0 [0] [0] [] ?_|refine rg 1 [0] [2] [(2, 5)] ?_);simp (maxSteps := 1000000) [hF])
 (try refine nr ?_);(repeat first|refine nb_ ?_|refine nl_ ?_);refine endK.o [2] [] [] ?_;simp [hF, retK, covers, mpre]
theorem real_z : Meets Try.prog 33 [] (.cons avZ .nil) fun av X κ => av = avBool false ∧ X = [] ∧ κ = [] := by
 refine fb Try.func33 Try.ntmps33 [.tmp 2] fun w0 I0 F0 hF => ?_
 repeat first|refine n1 ?_|((first|refine rg 0 [0] [0] [] ?_|refine rg 1 [0] [2] [(2, 5)] ?_);simp (maxSteps := 1000000) [hF, dZb])
 (try refine nr ?_);(repeat first|refine nb_ ?_|refine nl_ ?_);refine endK.o [2] [] [] ?_;simp [hF, retK, covers, mpre]
theorem has_n (u : Int) : Meets Try.prog 35 [] (.cons avNil (.cons (avInt u) .nil)) fun av X κ => av = avBool false ∧ X = [] ∧ κ = [] := by
 refine fb Try.func35 Try.ntmps35 [.tmp 4] fun w0 I0 F0 hF => ?_
 repeat first|refine n1 ?_|((first|refine rg 0 [0, 1] [0, 1] [] ?_|refine rg 1 [0, 1] [4] [(2, 7), (6, 11)] ?_);simp (maxSteps := 1000000) [hF])
 refine (real_n).go [] (by simp (maxSteps := 1000000) [hF]) ?_;rintro av X κ ⟨rfl, rfl, rfl⟩;simp (maxSteps := 1000000) [hF]
 (try refine nr ?_);(repeat first|refine nb_ ?_|refine nl_ ?_);refine endK.o [4] [] [] ?_;simp [hF, retK, covers, mpre]
theorem has_z (u : Int) : Meets Try.prog 35 [] (.cons avZ (.cons (avInt u) .nil)) fun av X κ => av = avBool false ∧ X = [] ∧ κ = [] := by
 refine fb Try.func35 Try.ntmps35 [.tmp 4] fun w0 I0 F0 hF => ?_
 repeat first|refine n1 ?_|((first|refine rg 0 [0, 1] [0, 1] [] ?_|refine rg 1 [0, 1] [4] [(2, 7), (6, 11)] ?_);simp (maxSteps := 1000000) [hF, dZb])
 refine (real_z).go [] (by simp (maxSteps := 1000000) [hF, dZb]) ?_;rintro av X κ ⟨rfl, rfl, rfl⟩;simp (maxSteps := 1000000) [hF, dZb]
 (try refine nr ?_);(repeat first|refine nb_ ?_|refine nl_ ?_);refine endK.o [4] [] [] ?_;simp [hF, retK, covers, mpre]
theorem Unit_n (ex : Bool) (l : List ByteArray) : Meets Try.prog 11 [] (.cons avNil (.cons (.imm 1 (strs l) ex) .nil)) fun av X κ => av = two (0, 1) ∧ X = [] ∧ κ = [] := by
 refine fb Try.func11 Try.ntmps11 [.tmp 4, .tmp 5] fun w0 I0 F0 hF => ?_
 repeat first|refine n1 ?_|((first|refine rg 0 [0, 1] [0, 1] [] ?_|refine rg 1 [0, 1] [0, 1, 11] [] ?_);simp (maxSteps := 1000000) [hF])
 refine (real_n).go [] (by simp (maxSteps := 1000000) [hF]) ?_;rintro av X κ ⟨rfl, rfl, rfl⟩;simp (maxSteps := 1000000) [hF]
 repeat first|refine n1 ?_|((first|refine rg 2 [] [4, 5] [] ?_|refine nc ?_);simp (maxSteps := 1000000) [hF])
 (try refine nr ?_);(repeat first|refine nb_ ?_|refine nl_ ?_);refine endK.o [4, 5] [] [] ?_;simp [hF, retK, covers, mpre]
theorem Unit_z (ex : Bool) (l : List ByteArray) : Meets Try.prog 11 [] (.cons avZ (.cons (.imm 1 (strs l) ex) .nil)) fun av X κ => av = two (0, 1) ∧ X = [] ∧ κ = [] := by
 refine fb Try.func11 Try.ntmps11 [.tmp 4, .tmp 5] fun w0 I0 F0 hF => ?_
 repeat first|refine n1 ?_|((first|refine rg 0 [0, 1] [0, 1] [] ?_|refine rg 1 [0, 1] [0, 1, 11] [] ?_);simp (maxSteps := 1000000) [hF, dZb])
 refine (real_z).go [] (by simp (maxSteps := 1000000) [hF, dZb]) ?_;rintro av X κ ⟨rfl, rfl, rfl⟩;simp (maxSteps := 1000000) [hF, dZb]
 repeat first|refine n1 ?_|((first|refine rg 2 [] [4, 5] [] ?_|refine nc ?_);simp (maxSteps := 1000000) [hF, dZb])
 (try refine nr ?_);(repeat first|refine nb_ ?_|refine nl_ ?_);refine endK.o [4, 5] [] [] ?_;simp [hF, retK, covers, mpre]
theorem Unit_nl (ex : Bool) (l : List ByteArray) : Meets Try.prog 11 [.sl true () 1 (strs l)] (.cons avNil (.cons (.sub 0 [] 0 l.length ex) .nil)) fun av X κ => av = two (0, 1) ∧ X = [.sl true () 1 (strs l)] ∧ κ = [] :=
 warmL (Unit_n ex l) (by simp [AV.chilled]) rfl (by simp) rfl
theorem Unit_y (ex : Bool) (l : List ByteArray) : Meets Try.prog 11 [.sl true () 1 (strs l), dZ] (.cons (.ptr 1 [.d]) (.cons (.sub 0 [] 0 l.length ex) .nil)) fun av X κ => av = two (0, 1) ∧ X = [.sl true () 1 (strs l), dZ] ∧ κ = [] :=
 warmL (warmZ (Unit_z ex l) (t := (.cons (.imm 1 (strs l) ex) .nil)) rfl rfl (by simp) rfl) (by simp [AV.chilled]) rfl (by simp) rfl
theorem Rely_n (u : Int) (k : ByteArray) : Meets Try.prog 12 [] (.cons avNil (.cons (avInt u) (.cons (avStr k) .nil))) fun av X κ => av = avInt 1 ∧ X = [] ∧ κ = [] := by
 refine fb Try.func12 Try.ntmps12 [.tmp 6] fun w0 I0 F0 hF => ?_
 repeat first|refine n1 ?_|refine n3 ?_|((first|refine rg 0 [0, 1, 2] [0, 1, 2] [] ?_|refine rg 1 [0, 1, 2] [0, 1, 2, 10] [] ?_);simp (maxSteps := 1000000) [hF])
 refine (has_n u).go [] (by simp (maxSteps := 1000000) [hF]) ?_;rintro av X κ ⟨rfl, rfl, rfl⟩;simp (maxSteps := 1000000) [hF]
 repeat first|refine n1 ?_|((first|refine rg 2 [] [6] [] ?_|refine nc ?_);simp (maxSteps := 1000000) [hF])
 (try refine nr ?_);(repeat first|refine nb_ ?_|refine nl_ ?_);refine endK.o [6] [] [] ?_;simp [hF, retK, covers, mpre]
theorem Rely_z (u : Int) (k : ByteArray) : Meets Try.prog 12 [] (.cons avZ (.cons (avInt u) (.cons (avStr k) .nil))) fun av X κ => av = avInt 1 ∧ X = [] ∧ κ = [] := by
 refine fb Try.func12 Try.ntmps12 [.tmp 6] fun w0 I0 F0 hF => ?_
 repeat first|refine n1 ?_|refine n3 ?_|((first|refine rg 0 [0, 1, 2] [0, 1, 2] [] ?_|refine rg 1 [0, 1, 2] [0, 1, 2, 10] [] ?_);simp (maxSteps := 1000000) [hF, dZb])
 refine (has_z u).go [] (by simp (maxSteps := 1000000) [hF, dZb]) ?_;rintro av X κ ⟨rfl, rfl, rfl⟩;simp (maxSteps := 1000000) [hF, dZb]
 repeat first|refine n1 ?_|((first|refine rg 2 [] [6] [] ?_|refine nc ?_);simp (maxSteps := 1000000) [hF, dZb])
 (try refine nr ?_);(repeat first|refine nb_ ?_|refine nl_ ?_);refine endK.o [6] [] [] ?_;simp [hF, retK, covers, mpre]
theorem Rely_y (u : Int) (k : ByteArray) : Meets Try.prog 12 [dZ] (.cons (.ptr 0 [.d]) (.cons (avInt u) (.cons (avStr k) .nil))) fun av X κ => av = avInt 1 ∧ X = [dZ] ∧ κ = [] :=
 warmZ (Rely_z u k) rfl rfl (by simp) rfl
theorem Into_n (u o : Int) : Meets Try.prog 13 [] (.cons avNil (.cons (avInt u) (.cons (avInt o) .nil))) fun av X κ => av = avInt 1 ∧ X = [] ∧ κ = [] := by
 refine fb Try.func13 Try.ntmps13 [.tmp 6] fun w0 I0 F0 hF => ?_
 repeat first|refine n1 ?_|refine n3 ?_|((first|refine rg 0 [0, 1, 2] [0, 1, 2] [] ?_|refine rg 1 [0, 1, 2] [0, 1, 2, 8] [(4, 13)] ?_);simp (maxSteps := 1000000) [hF])
 refine (has_n u).go [] (by simp (maxSteps := 1000000) [hF]) ?_;rintro av X κ ⟨rfl, rfl, rfl⟩;simp (maxSteps := 1000000) [hF]
 repeat first|refine n1 ?_|((first|refine rg 2 [] [6] [] ?_|refine nc ?_);simp (maxSteps := 1000000) [hF])
 (try refine nr ?_);(repeat first|refine nb_ ?_|refine nl_ ?_);refine endK.o [6] [] [] ?_;simp [hF, retK, covers, mpre]
theorem Into_z (u o : Int) : Meets Try.prog 13 [] (.cons avZ (.cons (avInt u) (.cons (avInt o) .nil))) fun av X κ => av = avInt 1 ∧ X = [] ∧ κ = [] := by
 refine fb Try.func13 Try.ntmps13 [.tmp 6] fun w0 I0 F0 hF => ?_
 repeat first|refine n1 ?_|refine n3 ?_|((first|refine rg 0 [0, 1, 2] [0, 1, 2] [] ?_|refine rg 1 [0, 1, 2] [0, 1, 2, 8] [(4, 13)] ?_);simp (maxSteps := 1000000) [hF, dZb])
 refine (has_z u).go [] (by simp (maxSteps := 1000000) [hF, dZb]) ?_;rintro av X κ ⟨rfl, rfl, rfl⟩;simp (maxSteps := 1000000) [hF, dZb]
 repeat first|refine n1 ?_|((first|refine rg 2 [] [6] [] ?_|refine nc ?_);simp (maxSteps := 1000000) [hF, dZb])
 (try refine nr ?_);(repeat first|refine nb_ ?_|refine nl_ ?_);refine endK.o [6] [] [] ?_;simp [hF, retK, covers, mpre]
theorem Into_y (u o : Int) : Meets Try.prog 13 [dZ] (.cons (.ptr 0 [.d]) (.cons (avInt u) (.cons (avInt o) .nil))) fun av X κ => av = avInt 1 ∧ X = [dZ] ∧ κ = [] :=
 warmZ (Into_z u o) rfl rfl (by simp) rfl
theorem Move_n (k : ByteArray) : Meets Try.prog 14 [] (.cons avNil (.cons (avStr k) .nil)) fun av X κ => av = avTwo (.nils 1) 1 ∧ X = [] ∧ κ = [] := by
 refine fb Try.func14 Try.ntmps14 [.tmp 4, .tmp 5] fun w0 I0 F0 hF => ?_
 repeat first|refine n1 ?_|((first|refine rg 0 [0, 1] [0, 1] [] ?_|refine rg 1 [0, 1] [0, 1, 8] [] ?_);simp (maxSteps := 1000000) [hF])
 refine (real_n).go [] (by simp (maxSteps := 1000000) [hF]) ?_;rintro av X κ ⟨rfl, rfl, rfl⟩;simp (maxSteps := 1000000) [hF]
 repeat first|refine n1 ?_|((first|refine rg 2 [] [4, 5] [] ?_|refine nc ?_);simp (maxSteps := 1000000) [hF])
 (try refine nr ?_);(repeat first|refine nb_ ?_|refine nl_ ?_);refine endK.o [4, 5] [] [] ?_;simp [hF, retK, covers, mpre]
theorem Move_z (k : ByteArray) : Meets Try.prog 14 [] (.cons avZ (.cons (avStr k) .nil)) fun av X κ => av = avTwo (.nils 1) 1 ∧ X = [] ∧ κ = [] := by
 refine fb Try.func14 Try.ntmps14 [.tmp 4, .tmp 5] fun w0 I0 F0 hF => ?_
 repeat first|refine n1 ?_|((first|refine rg 0 [0, 1] [0, 1] [] ?_|refine rg 1 [0, 1] [0, 1, 8] [] ?_);simp (maxSteps := 1000000) [hF, dZb])
 refine (real_z).go [] (by simp (maxSteps := 1000000) [hF, dZb]) ?_;rintro av X κ ⟨rfl, rfl, rfl⟩;simp (maxSteps := 1000000) [hF, dZb]
 repeat first|refine n1 ?_|((first|refine rg 2 [] [4, 5] [] ?_|refine nc ?_);simp (maxSteps := 1000000) [hF, dZb])
 (try refine nr ?_);(repeat first|refine nb_ ?_|refine nl_ ?_);refine endK.o [4, 5] [] [] ?_;simp [hF, retK, covers, mpre]
theorem Move_y (k : ByteArray) : Meets Try.prog 14 [dZ] (.cons (.ptr 0 [.d]) (.cons (avStr k) .nil)) fun av X κ => av = avTwo (.nils 1) 1 ∧ X = [dZ] ∧ κ = [] :=
 warmZ (Move_z k) rfl rfl (by simp) rfl
theorem Renew_n (u : Int) : Meets Try.prog 15 [] (.cons avNil (.cons (avInt u) (.cons (.nils 1) .nil))) fun av X κ => av = avInt 1 ∧ X = [] ∧ κ = [] := by
 refine fb Try.func15 Try.ntmps15 [.tmp 6] fun w0 I0 F0 hF => ?_
 repeat first|refine n1 ?_|((first|refine rg 0 [0, 1, 2] [0, 1, 2] [] ?_|refine rg 1 [0, 1, 2] [0, 1, 2, 13] [] ?_);simp (maxSteps := 1000000) [hF])
 refine (has_n u).go [] (by simp (maxSteps := 1000000) [hF]) ?_;rintro av X κ ⟨rfl, rfl, rfl⟩;simp (maxSteps := 1000000) [hF]
 repeat first|refine n1 ?_|((first|refine rg 2 [] [6] [] ?_|refine nc ?_);simp (maxSteps := 1000000) [hF])
 (try refine nr ?_);(repeat first|refine nb_ ?_|refine nl_ ?_);refine endK.o [6] [] [] ?_;simp [hF, retK, covers, mpre]
theorem Renew_z (u : Int) : Meets Try.prog 15 [] (.cons avZ (.cons (avInt u) (.cons (.nils 1) .nil))) fun av X κ => av = avInt 1 ∧ X = [] ∧ κ = [] := by
 refine fb Try.func15 Try.ntmps15 [.tmp 6] fun w0 I0 F0 hF => ?_
 repeat first|refine n1 ?_|((first|refine rg 0 [0, 1, 2] [0, 1, 2] [] ?_|refine rg 1 [0, 1, 2] [0, 1, 2, 13] [] ?_);simp (maxSteps := 1000000) [hF, dZb])
 refine (has_z u).go [] (by simp (maxSteps := 1000000) [hF, dZb]) ?_;rintro av X κ ⟨rfl, rfl, rfl⟩;simp (maxSteps := 1000000) [hF, dZb]
 repeat first|refine n1 ?_|((first|refine rg 2 [] [6] [] ?_|refine nc ?_);simp (maxSteps := 1000000) [hF, dZb])
 (try refine nr ?_);(repeat first|refine nb_ ?_|refine nl_ ?_);refine endK.o [6] [] [] ?_;simp [hF, retK, covers, mpre]
theorem Renew_y (u : Int) : Meets Try.prog 15 [dZ] (.cons (.ptr 0 [.d]) (.cons (avInt u) (.cons (.nils 1) .nil))) fun av X κ => av = avInt 1 ∧ X = [dZ] ∧ κ = [] :=
 warmZ (Renew_z u) rfl rfl (by simp) rfl
theorem Drop_n (u : Int) : Meets Try.prog 30 [] (.cons avNil (.cons (avInt u) .nil)) fun av X κ => av = avTwo (.nils 1) 1 ∧ X = [] ∧ κ = [] := by
 refine fb Try.func30 Try.ntmps30 [.tmp 4, .tmp 5] fun w0 I0 F0 hF => ?_
 repeat first|refine n1 ?_|((first|refine rg 0 [0, 1] [0, 1] [] ?_|refine rg 1 [0, 1] [0, 1, 9] [] ?_);simp (maxSteps := 1000000) [hF])
 refine (has_n u).go [] (by simp (maxSteps := 1000000) [hF]) ?_;rintro av X κ ⟨rfl, rfl, rfl⟩;simp (maxSteps := 1000000) [hF]
 repeat first|refine n1 ?_|((first|refine rg 2 [] [4, 5] [] ?_|refine nc ?_);simp (maxSteps := 1000000) [hF])
 (try refine nr ?_);(repeat first|refine nb_ ?_|refine nl_ ?_);refine endK.o [4, 5] [] [] ?_;simp [hF, retK, covers, mpre]
theorem Drop_z (u : Int) : Meets Try.prog 30 [] (.cons avZ (.cons (avInt u) .nil)) fun av X κ => av = avTwo (.nils 1) 1 ∧ X = [] ∧ κ = [] := by
 refine fb Try.func30 Try.ntmps30 [.tmp 4, .tmp 5] fun w0 I0 F0 hF => ?_
 repeat first|refine n1 ?_|((first|refine rg 0 [0, 1] [0, 1] [] ?_|refine rg 1 [0, 1] [0, 1, 9] [] ?_);simp (maxSteps := 1000000) [hF, dZb])
 refine (has_z u).go [] (by simp (maxSteps := 1000000) [hF, dZb]) ?_;rintro av X κ ⟨rfl, rfl, rfl⟩;simp (maxSteps := 1000000) [hF, dZb]
 repeat first|refine n1 ?_|((first|refine rg 2 [] [4, 5] [] ?_|refine nc ?_);simp (maxSteps := 1000000) [hF, dZb])
 (try refine nr ?_);(repeat first|refine nb_ ?_|refine nl_ ?_);refine endK.o [4, 5] [] [] ?_;simp [hF, retK, covers, mpre]
theorem Drop_y (u : Int) : Meets Try.prog 30 [dZ] (.cons (.ptr 0 [.d]) (.cons (avInt u) .nil)) fun av X κ => av = avTwo (.nils 1) 1 ∧ X = [dZ] ∧ κ = [] :=
 warmZ (Drop_z u) rfl rfl (by simp) rfl
theorem Up_n (u : Int) : Meets Try.prog 16 [] (.cons avNil (.cons (avInt u) .nil)) fun av X κ => av = avTwo (avBool false) 1 ∧ X = [] ∧ κ = [] := by
 refine fb Try.func16 Try.ntmps16 [.tmp 4, .tmp 5] fun w0 I0 F0 hF => ?_
 repeat first|refine n1 ?_|((first|refine rg 0 [0, 1] [0, 1] [] ?_|refine rg 1 [0, 1] [0, 1, 9] [] ?_);simp (maxSteps := 1000000) [hF])
 refine (has_n u).go [] (by simp (maxSteps := 1000000) [hF]) ?_;rintro av X κ ⟨rfl, rfl, rfl⟩;simp (maxSteps := 1000000) [hF]
 repeat first|refine n1 ?_|((first|refine rg 2 [] [4, 5] [] ?_|refine nc ?_);simp (maxSteps := 1000000) [hF])
 (try refine nr ?_);(repeat first|refine nb_ ?_|refine nl_ ?_);refine endK.o [4, 5] [] [] ?_;simp [hF, retK, covers, mpre]
theorem Up_z (u : Int) : Meets Try.prog 16 [] (.cons avZ (.cons (avInt u) .nil)) fun av X κ => av = avTwo (avBool false) 1 ∧ X = [] ∧ κ = [] := by
 refine fb Try.func16 Try.ntmps16 [.tmp 4, .tmp 5] fun w0 I0 F0 hF => ?_
 repeat first|refine n1 ?_|((first|refine rg 0 [0, 1] [0, 1] [] ?_|refine rg 1 [0, 1] [0, 1, 9] [] ?_);simp (maxSteps := 1000000) [hF, dZb])
 refine (has_z u).go [] (by simp (maxSteps := 1000000) [hF, dZb]) ?_;rintro av X κ ⟨rfl, rfl, rfl⟩;simp (maxSteps := 1000000) [hF, dZb]
 repeat first|refine n1 ?_|((first|refine rg 2 [] [4, 5] [] ?_|refine nc ?_);simp (maxSteps := 1000000) [hF, dZb])
 (try refine nr ?_);(repeat first|refine nb_ ?_|refine nl_ ?_);refine endK.o [4, 5] [] [] ?_;simp [hF, retK, covers, mpre]
theorem Up_y (u : Int) : Meets Try.prog 16 [dZ] (.cons (.ptr 0 [.d]) (.cons (avInt u) .nil)) fun av X κ => av = avTwo (avBool false) 1 ∧ X = [dZ] ∧ κ = [] :=
 warmZ (Up_z u) rfl rfl (by simp) rfl
theorem Serial_n (k : ByteArray) : Meets Try.prog 31 [] (.cons avNil (.cons (avStr k) .nil)) fun av X κ => av = two (0, 1) ∧ X = [] ∧ κ = [] := by
 refine fb Try.func31 Try.ntmps31 [.tmp 4, .tmp 5] fun w0 I0 F0 hF => ?_
 repeat first|refine n1 ?_|((first|refine rg 0 [0, 1] [0, 1] [] ?_|refine rg 1 [0, 1] [0, 1, 8] [] ?_);simp (maxSteps := 1000000) [hF])
 refine (real_n).go [] (by simp (maxSteps := 1000000) [hF]) ?_;rintro av X κ ⟨rfl, rfl, rfl⟩;simp (maxSteps := 1000000) [hF]
 repeat first|refine n1 ?_|((first|refine rg 2 [] [4, 5] [] ?_|refine nc ?_);simp (maxSteps := 1000000) [hF])
 (try refine nr ?_);(repeat first|refine nb_ ?_|refine nl_ ?_);refine endK.o [4, 5] [] [] ?_;simp [hF, retK, covers, mpre]
theorem Serial_z (k : ByteArray) : Meets Try.prog 31 [] (.cons avZ (.cons (avStr k) .nil)) fun av X κ => av = two (0, 1) ∧ X = [] ∧ κ = [] := by
 refine fb Try.func31 Try.ntmps31 [.tmp 4, .tmp 5] fun w0 I0 F0 hF => ?_
 repeat first|refine n1 ?_|((first|refine rg 0 [0, 1] [0, 1] [] ?_|refine rg 1 [0, 1] [0, 1, 8] [] ?_);simp (maxSteps := 1000000) [hF, dZb])
 refine (real_z).go [] (by simp (maxSteps := 1000000) [hF, dZb]) ?_;rintro av X κ ⟨rfl, rfl, rfl⟩;simp (maxSteps := 1000000) [hF, dZb]
 repeat first|refine n1 ?_|((first|refine rg 2 [] [4, 5] [] ?_|refine nc ?_);simp (maxSteps := 1000000) [hF, dZb])
 (try refine nr ?_);(repeat first|refine nb_ ?_|refine nl_ ?_);refine endK.o [4, 5] [] [] ?_;simp [hF, retK, covers, mpre]
theorem Serial_y (k : ByteArray) : Meets Try.prog 31 [dZ] (.cons (.ptr 0 [.d]) (.cons (avStr k) .nil)) fun av X κ => av = two (0, 1) ∧ X = [dZ] ∧ κ = [] :=
 warmZ (Serial_z k) rfl rfl (by simp) rfl
theorem Keys_n (u : Int) : Meets Try.prog 17 [] (.cons avNil (.cons (avInt u) .nil)) fun av X κ => av = avTwo (.nils 1) 1 ∧ X = [] ∧ κ = [] := by
 refine fb Try.func17 Try.ntmps17 [.tmp 4, .tmp 5] fun w0 I0 F0 hF => ?_
 repeat first|refine n1 ?_|((first|refine rg 0 [0, 1] [0, 1] [] ?_|refine rg 1 [0, 1] [0, 1, 9] [] ?_);simp (maxSteps := 1000000) [hF])
 refine (has_n u).go [] (by simp (maxSteps := 1000000) [hF]) ?_;rintro av X κ ⟨rfl, rfl, rfl⟩;simp (maxSteps := 1000000) [hF]
 repeat first|refine n1 ?_|((first|refine rg 2 [] [4, 5] [] ?_|refine nc ?_);simp (maxSteps := 1000000) [hF])
 (try refine nr ?_);(repeat first|refine nb_ ?_|refine nl_ ?_);refine endK.o [4, 5] [] [] ?_;simp [hF, retK, covers, mpre]
theorem Keys_z (u : Int) : Meets Try.prog 17 [] (.cons avZ (.cons (avInt u) .nil)) fun av X κ => av = avTwo (.nils 1) 1 ∧ X = [] ∧ κ = [] := by
 refine fb Try.func17 Try.ntmps17 [.tmp 4, .tmp 5] fun w0 I0 F0 hF => ?_
 repeat first|refine n1 ?_|((first|refine rg 0 [0, 1] [0, 1] [] ?_|refine rg 1 [0, 1] [0, 1, 9] [] ?_);simp (maxSteps := 1000000) [hF, dZb])
 refine (has_z u).go [] (by simp (maxSteps := 1000000) [hF, dZb]) ?_;rintro av X κ ⟨rfl, rfl, rfl⟩;simp (maxSteps := 1000000) [hF, dZb]
 repeat first|refine n1 ?_|((first|refine rg 2 [] [4, 5] [] ?_|refine nc ?_);simp (maxSteps := 1000000) [hF, dZb])
 (try refine nr ?_);(repeat first|refine nb_ ?_|refine nl_ ?_);refine endK.o [4, 5] [] [] ?_;simp [hF, retK, covers, mpre]
theorem Keys_y (u : Int) : Meets Try.prog 17 [dZ] (.cons (.ptr 0 [.d]) (.cons (avInt u) .nil)) fun av X κ => av = avTwo (.nils 1) 1 ∧ X = [dZ] ∧ κ = [] :=
 warmZ (Keys_z u) rfl rfl (by simp) rfl
theorem Who_n (k : ByteArray) : Meets Try.prog 24 [] (.cons avNil (.cons (avStr k) .nil)) fun av X κ => av = avTwo (.nils 1) 1 ∧ X = [] ∧ κ = [] := by
 refine fb Try.func24 Try.ntmps24 [.tmp 4, .tmp 5] fun w0 I0 F0 hF => ?_
 repeat first|refine n1 ?_|((first|refine rg 0 [0, 1] [0, 1] [] ?_|refine rg 1 [0, 1] [0, 1, 8] [] ?_);simp (maxSteps := 1000000) [hF])
 refine (real_n).go [] (by simp (maxSteps := 1000000) [hF]) ?_;rintro av X κ ⟨rfl, rfl, rfl⟩;simp (maxSteps := 1000000) [hF]
 repeat first|refine n1 ?_|((first|refine rg 2 [] [4, 5] [] ?_|refine nc ?_);simp (maxSteps := 1000000) [hF])
 (try refine nr ?_);(repeat first|refine nb_ ?_|refine nl_ ?_);refine endK.o [4, 5] [] [] ?_;simp [hF, retK, covers, mpre]
theorem Who_z (k : ByteArray) : Meets Try.prog 24 [] (.cons avZ (.cons (avStr k) .nil)) fun av X κ => av = avTwo (.nils 1) 1 ∧ X = [] ∧ κ = [] := by
 refine fb Try.func24 Try.ntmps24 [.tmp 4, .tmp 5] fun w0 I0 F0 hF => ?_
 repeat first|refine n1 ?_|((first|refine rg 0 [0, 1] [0, 1] [] ?_|refine rg 1 [0, 1] [0, 1, 8] [] ?_);simp (maxSteps := 1000000) [hF, dZb])
 refine (real_z).go [] (by simp (maxSteps := 1000000) [hF, dZb]) ?_;rintro av X κ ⟨rfl, rfl, rfl⟩;simp (maxSteps := 1000000) [hF, dZb]
 repeat first|refine n1 ?_|((first|refine rg 2 [] [4, 5] [] ?_|refine nc ?_);simp (maxSteps := 1000000) [hF, dZb])
 (try refine nr ?_);(repeat first|refine nb_ ?_|refine nl_ ?_);refine endK.o [4, 5] [] [] ?_;simp [hF, retK, covers, mpre]
theorem Who_y (k : ByteArray) : Meets Try.prog 24 [dZ] (.cons (.ptr 0 [.d]) (.cons (avStr k) .nil)) fun av X κ => av = avTwo (.nils 1) 1 ∧ X = [dZ] ∧ κ = [] :=
 warmZ (Who_z k) rfl rfl (by simp) rfl
theorem All_n (u : Int) : Meets Try.prog 25 [] (.cons avNil (.cons (avInt u) .nil)) fun av X κ => av = avTwo (.nils 1) 1 ∧ X = [] ∧ κ = [] := by
 refine fb Try.func25 Try.ntmps25 [.tmp 4, .tmp 5] fun w0 I0 F0 hF => ?_
 repeat first|refine n1 ?_|((first|refine rg 0 [0, 1] [0, 1] [] ?_|refine rg 1 [0, 1] [0, 1, 14] [] ?_);simp (maxSteps := 1000000) [hF])
 refine (has_n u).go [] (by simp (maxSteps := 1000000) [hF]) ?_;rintro av X κ ⟨rfl, rfl, rfl⟩;simp (maxSteps := 1000000) [hF]
 repeat first|refine n1 ?_|((first|refine rg 2 [] [4, 5] [] ?_|refine nc ?_);simp (maxSteps := 1000000) [hF])
 (try refine nr ?_);(repeat first|refine nb_ ?_|refine nl_ ?_);refine endK.o [4, 5] [] [] ?_;simp [hF, retK, covers, mpre]
theorem All_z (u : Int) : Meets Try.prog 25 [] (.cons avZ (.cons (avInt u) .nil)) fun av X κ => av = avTwo (.nils 1) 1 ∧ X = [] ∧ κ = [] := by
 refine fb Try.func25 Try.ntmps25 [.tmp 4, .tmp 5] fun w0 I0 F0 hF => ?_
 repeat first|refine n1 ?_|((first|refine rg 0 [0, 1] [0, 1] [] ?_|refine rg 1 [0, 1] [0, 1, 14] [] ?_);simp (maxSteps := 1000000) [hF, dZb])
 refine (has_z u).go [] (by simp (maxSteps := 1000000) [hF, dZb]) ?_;rintro av X κ ⟨rfl, rfl, rfl⟩;simp (maxSteps := 1000000) [hF, dZb]
 repeat first|refine n1 ?_|((first|refine rg 2 [] [4, 5] [] ?_|refine nc ?_);simp (maxSteps := 1000000) [hF, dZb])
 (try refine nr ?_);(repeat first|refine nb_ ?_|refine nl_ ?_);refine endK.o [4, 5] [] [] ?_;simp [hF, retK, covers, mpre]
theorem All_y (u : Int) : Meets Try.prog 25 [dZ] (.cons (.ptr 0 [.d]) (.cons (avInt u) .nil)) fun av X κ => av = avTwo (.nils 1) 1 ∧ X = [dZ] ∧ κ = [] :=
 warmZ (All_z u) rfl rfl (by simp) rfl
theorem Moves_n : Meets Try.prog 32 [] (.cons avNil .nil) fun av X κ => av = .nils 1 ∧ X = [] ∧ κ = [] := by
 refine fb Try.func32 Try.ntmps32 [.tmp 2] fun w0 I0 F0 hF => ?_
 repeat first|refine n1 ?_|((first|refine rg 0 [0] [0] [] ?_|refine rg 1 [0] [0, 5] [] ?_);simp (maxSteps := 1000000) [hF])
 refine (real_n).go [] (by simp (maxSteps := 1000000) [hF]) ?_;rintro av X κ ⟨rfl, rfl, rfl⟩;simp (maxSteps := 1000000) [hF]
 repeat first|refine n1 ?_|((first|refine rg 2 [] [2] [] ?_|refine nc ?_);simp (maxSteps := 1000000) [hF])
 (try refine nr ?_);(repeat first|refine nb_ ?_|refine nl_ ?_);refine endK.o [2] [] [] ?_;simp [hF, retK, covers, mpre]
theorem Moves_z : Meets Try.prog 32 [] (.cons avZ .nil) fun av X κ => av = .nils 1 ∧ X = [] ∧ κ = [] := by
 refine fb Try.func32 Try.ntmps32 [.tmp 2] fun w0 I0 F0 hF => ?_
 repeat first|refine n1 ?_|((first|refine rg 0 [0] [0] [] ?_|refine rg 1 [0] [0, 5] [] ?_);simp (maxSteps := 1000000) [hF, dZb])
 refine (real_z).go [] (by simp (maxSteps := 1000000) [hF, dZb]) ?_;rintro av X κ ⟨rfl, rfl, rfl⟩;simp (maxSteps := 1000000) [hF, dZb]
 repeat first|refine n1 ?_|((first|refine rg 2 [] [2] [] ?_|refine nc ?_);simp (maxSteps := 1000000) [hF, dZb])
 (try refine nr ?_);(repeat first|refine nb_ ?_|refine nl_ ?_);refine endK.o [2] [] [] ?_;simp [hF, retK, covers, mpre]
theorem Moves_y : Meets Try.prog 32 [dZ] (.cons (.ptr 0 [.d]) .nil) fun av X κ => av = .nils 1 ∧ X = [dZ] ∧ κ = [] :=
 warmZ (Moves_z) rfl rfl (by simp) rfl
theorem Copy_n : Meets Try.prog 26 [] (.cons avNil .nil) fun av X κ => av = avNil ∧ X = [] ∧ κ = [] := by
 refine fb Try.func26 Try.ntmps26 [.tmp 2] fun w0 I0 F0 hF => ?_
 repeat first|refine n1 ?_|((first|refine rg 0 [0] [0] [] ?_|refine rg 1 [0] [0, 8] [] ?_);simp (maxSteps := 1000000) [hF])
 refine (real_n).go [] (by simp (maxSteps := 1000000) [hF]) ?_;rintro av X κ ⟨rfl, rfl, rfl⟩;simp (maxSteps := 1000000) [hF]
 repeat first|refine n1 ?_|((first|refine rg 2 [] [2] [] ?_|refine nc ?_);simp (maxSteps := 1000000) [hF])
 (try refine nr ?_);(repeat first|refine nb_ ?_|refine nl_ ?_);refine endK.o [2] [] [] ?_;simp [hF, retK, covers, mpre]
theorem Copy_z : Meets Try.prog 26 [] (.cons avZ .nil) fun av X κ => av = avNil ∧ X = [] ∧ κ = [] := by
 refine fb Try.func26 Try.ntmps26 [.tmp 2] fun w0 I0 F0 hF => ?_
 repeat first|refine n1 ?_|((first|refine rg 0 [0] [0] [] ?_|refine rg 1 [0] [0, 8] [] ?_);simp (maxSteps := 1000000) [hF, dZb])
 refine (real_z).go [] (by simp (maxSteps := 1000000) [hF, dZb]) ?_;rintro av X κ ⟨rfl, rfl, rfl⟩;simp (maxSteps := 1000000) [hF, dZb]
 repeat first|refine n1 ?_|((first|refine rg 2 [] [2] [] ?_|refine nc ?_);simp (maxSteps := 1000000) [hF, dZb])
 (try refine nr ?_);(repeat first|refine nb_ ?_|refine nl_ ?_);refine endK.o [2] [] [] ?_;simp [hF, retK, covers, mpre]
theorem Copy_y : Meets Try.prog 26 [dZ] (.cons (.ptr 0 [.d]) .nil) fun av X κ => av = avNil ∧ X = [dZ] ∧ κ = [] :=
 warmZ (Copy_z) rfl rfl (by simp) rfl
def dOnes (n : Nat) : D := dInts (List.replicate n 1)
@[simp] theorem dOnes_len (n : Nat) : (dOnes n).len = n := by simp [dOnes]
theorem dOnes_nth {n j : Nat} (h : j < n) : (dOnes n).nth j = .val (.int .i64 1) := by rw [dOnes, dInts_nth (by simpa using h)]; simp
theorem nothing_ok (a c : Int) (s : ByteArray) : Meets Try.prog 8 [] (.cons (avInt a) (.cons (avInt c) (.cons (avStr s) .nil))) fun av X κ => av = .val (.bool true) := by
 have w00 : IntKind.i64.wrap 0 = 0 := by decide
 have hN : dZ = .box true () (.agg (.cons (.sl true () 3 .nil) (.cons (.val (.map none)) .nil))) := rfl
 have h1 : strs [s] = .cons (.val (.string s)) .nil := rfl
 refine fb Try.func8 Try.ntmps8 [.tmp 6] fun w0 I0 F0 hF => ?_
 repeat first|refine n1 ?_|refine n3 ?_|((first|refine rg 0 [0, 1, 2] [0, 1, 2] [] ?_|refine rg 1 [0, 1, 2] [0, 1, 2, 7] [] ?_|refine rg 2 [0, 1, 2, 7] [0, 1, 2, 7, 8] [] ?_);simp (maxSteps := 1000000) [hF])
 refine VS.rounds (fun m st => ∃ (k : Nat), k + m = 2 ∧ st = ⟨[(0, avInt a), (1, avInt c), (2, avStr s), (7, avNil), (8, avInt k)], [], [], []⟩) ⟨2, 0, by omega, by simp⟩ ?_
 rintro m st ⟨k, hk, rfl⟩
 have hk3 : k = 0 ∨ k = 1 ∨ k = 2 := by omega
 rcases hk3 with rfl | rfl | rfl
 ·repeat first|refine n1 ?_|refine n2 ?_|refine n3 ?_|((first|refine rg 3 [0, 1, 2, 7, 8] [0, 1, 2, 7, 8, 29] [] ?_|refine rg 5 [0, 1, 2, 7, 8] [0, 1, 2, 7, 8, 9] [] ?_|refine rg 6 [0, 1, 2, 7, 8, 9] [0, 1, 2, 7, 8, 9, 34] [] ?_|refine rg 8 [0, 1, 2, 7, 8, 9] [0, 1, 2, 7, 8, 9, 11] [] ?_|refine nc ?_);simp (maxSteps := 1000000) [hF])
  refine (Unit_nl true [s]).go [(0, [])] (by simp (maxSteps := 1000000) [hF, h1]) ?_;rintro av X κ ⟨rfl, rfl, rfl⟩;simp (maxSteps := 1000000) [hF, h1]
  repeat first|refine n1 ?_|(refine rg 9 [0, 1, 2, 7, 8, 9, 11] [0, 1, 2, 7, 8, 9, 11, 13] [] ?_;simp (maxSteps := 1000000) [hF])
  refine (Move_n s).go [] (by simp (maxSteps := 1000000) [hF]) ?_;rintro av X κ ⟨rfl, rfl, rfl⟩;simp (maxSteps := 1000000) [hF]
  repeat first|refine n1 ?_|(refine rg 10 [0, 1, 2, 7, 8, 9, 11, 13] [0, 1, 2, 7, 8, 9, 11, 13, 15] [] ?_;simp (maxSteps := 1000000) [hF])
  refine (Drop_n a).go [] (by simp (maxSteps := 1000000) [hF]) ?_;rintro av X κ ⟨rfl, rfl, rfl⟩;simp (maxSteps := 1000000) [hF]
  repeat first|refine n1 ?_|(refine rg 11 [0, 1, 2, 7, 8, 9, 11, 13, 15] [0, 1, 2, 7, 8, 9, 11, 13, 15, 17] [] ?_;simp (maxSteps := 1000000) [hF])
  refine (Up_n a).go [] (by simp (maxSteps := 1000000) [hF]) ?_;rintro av X κ ⟨rfl, rfl, rfl⟩;simp (maxSteps := 1000000) [hF]
  repeat first|refine n1 ?_|(refine rg 12 [0, 1, 2, 7, 8, 9, 11, 13, 15, 17] [0, 1, 2, 7, 8, 9, 11, 13, 15, 17, 19] [] ?_;simp (maxSteps := 1000000) [hF])
  refine (Serial_n s).go [] (by simp (maxSteps := 1000000) [hF]) ?_;rintro av X κ ⟨rfl, rfl, rfl⟩;simp (maxSteps := 1000000) [hF]
  repeat first|refine n1 ?_|(refine rg 13 [0, 1, 2, 7, 8, 9, 11, 13, 15, 17, 19] [0, 1, 2, 7, 8, 9, 11, 13, 15, 17, 19, 21] [] ?_;simp (maxSteps := 1000000) [hF])
  refine (Keys_n a).go [] (by simp (maxSteps := 1000000) [hF]) ?_;rintro av X κ ⟨rfl, rfl, rfl⟩;simp (maxSteps := 1000000) [hF]
  repeat first|refine n1 ?_|(refine rg 14 [0, 1, 2, 7, 8, 9, 11, 13, 15, 17, 19, 21] [0, 1, 2, 7, 8, 9, 11, 13, 15, 17, 19, 21, 23] [] ?_;simp (maxSteps := 1000000) [hF])
  refine (Who_n s).go [] (by simp (maxSteps := 1000000) [hF]) ?_;rintro av X κ ⟨rfl, rfl, rfl⟩;simp (maxSteps := 1000000) [hF]
  repeat first|refine n1 ?_|(refine rg 15 [0, 1, 2, 7, 8, 9, 11, 13, 15, 17, 19, 21, 23] [0, 1, 2, 7, 8, 9, 11, 13, 15, 17, 19, 21, 23, 25] [] ?_;simp (maxSteps := 1000000) [hF])
  refine (All_n a).go [] (by simp (maxSteps := 1000000) [hF]) ?_;rintro av X κ ⟨rfl, rfl, rfl⟩;simp (maxSteps := 1000000) [hF]
  repeat first|refine n1 ?_|(refine rg 16 [0, 1, 2, 7, 8, 9, 11, 13, 15, 17, 19, 21, 23, 25] [0, 1, 2, 7, 8, 9, 26] [] ?_;simp (maxSteps := 1000000) [hF])
  refine (Rely_n a s).go [] (by simp (maxSteps := 1000000) [hF]) ?_;rintro av X κ ⟨rfl, rfl, rfl⟩;simp (maxSteps := 1000000) [hF]
  refine (Into_n a c).go [] (by simp (maxSteps := 1000000) [hF]) ?_;rintro av X κ ⟨rfl, rfl, rfl⟩;simp (maxSteps := 1000000) [hF]
  refine (Renew_n a).go [] (by simp (maxSteps := 1000000) [hF]) ?_;rintro av X κ ⟨rfl, rfl, rfl⟩;simp (maxSteps := 1000000) [hF]
  repeat first|refine n1 ?_|refine n3 ?_|(refine rg 17 [0, 1, 2, 7, 8, 9, 26] [0, 1, 2, 7, 8, 9, 26, 27] [] ?_;simp (maxSteps := 1000000) [hF])
  refine VS.pick [0, 1, 2, 7, 8, 9, 26, 27] [1] (by simp [hF]) ?_;simp [hF]
  refine VS.rounds (fun m2 st => ∃ (j : Nat), j + m2 = 11 ∧ st = ⟨[(0, avInt a), (1, avInt c), (2, avStr s), (7, avNil), (8, avInt 0), (9, avNil), (26, .sub 0 [] 0 11 true), (27, avInt j)], [.sl true () 1 (dOnes 11)], [], []⟩) ⟨11, 0, by omega, by simp [dOnes, dInts, sq, dInt, List.replicate]; try rfl⟩ ?_
  rintro m2 st ⟨j, hj, rfl⟩
  repeat first|refine n1 ?_|((first|refine rg 18 [0, 1, 2, 7, 8, 9, 26, 27] [0, 1, 2, 7, 8, 9, 26, 27, 109] [] ?_|refine nc ?_);simp (maxSteps := 1000000) [hF])
  refine ⟨fun hlt => ?_, fun hge => ?_⟩
  ·have hlt' : j < 11 := by omega
   have hn := dOnes_nth hlt'
   have hw1 : IntKind.i64.wrap ((j : Int) + 1) = (j + 1 : Nat) := by rw [IntWalk.i64_in _ (by omega)]; rfl
   repeat first|refine n1 ?_|refine n2 ?_|refine n3 ?_|refine n4 ?_|refine n5 ?_|refine n6 ?_|((first|refine rg 19 [0, 1, 2, 7, 8, 9, 26, 27] [0, 1, 2, 7, 8, 9, 26, 27] [] ?_|refine rg 20 [0, 1, 2, 7, 8, 9, 26, 27] [0, 1, 2, 7, 8, 9, 26, 27, 116] [] ?_|refine nc ?_);simp (maxSteps := 1000000) [hF, hn, hlt, hlt', hw1])
   refine nextK.of [0, 1, 2, 7, 8, 9, 26, 27] [0] (m2 - 1) (by omega) (by simp [hF]) ?_
   refine ⟨j + 1, by omega, ?_⟩
   simp
  ·repeat first|refine n1 ?_|refine n7 ?_|(refine rg 22 [0, 1, 2, 7, 8, 9] [0, 1, 2, 7, 8, 125] [(4, 121)] ?_;simp (maxSteps := 1000000) [hF])
   refine (Moves_n).go [] (by simp (maxSteps := 1000000) [hF, w00]) ?_;rintro av X κ ⟨rfl, rfl, rfl⟩;simp (maxSteps := 1000000) [hF, w00]
   refine (Copy_n).go [] (by simp (maxSteps := 1000000) [hF, w00]) ?_;rintro av X κ ⟨rfl, rfl, rfl⟩;simp (maxSteps := 1000000) [hF, w00]
   repeat first|refine n2 ?_|refine n4 ?_|refine n5 ?_|refine n6 ?_|((first|refine rg 4 [0, 1, 2, 7, 8] [0, 1, 2, 7, 8] [] ?_|refine nc ?_);simp (maxSteps := 1000000) [hF, w00])
   refine nextK.of [0, 1, 2, 7, 8] [] (1) (by omega) (by simp [hF]) ?_
   exact ⟨1, rfl, rfl⟩
 ·repeat first|refine n1 ?_|refine n2 ?_|refine n3 ?_|((first|refine rg 3 [0, 1, 2, 7, 8] [0, 1, 2, 7, 8, 29] [] ?_|refine rg 5 [0, 1, 2, 7, 8] [0, 1, 2, 7, 8, 9] [] ?_|refine rg 6 [0, 1, 2, 7, 8, 9] [0, 1, 2, 7, 8, 9, 34] [] ?_|refine rg 7 [0, 1, 2, 7, 8] [0, 1, 2, 7, 8, 9] [] ?_|refine rg 8 [0, 1, 2, 7, 8, 9] [0, 1, 2, 7, 8, 9, 11] [] ?_|refine nc ?_);simp (maxSteps := 1000000) [hF])
  refine (Unit_y true [s]).go [(1, []), (0, [])] (by simp (maxSteps := 1000000) [hF, h1, hN]) ?_;rintro av X κ ⟨rfl, rfl, rfl⟩;simp (maxSteps := 1000000) [hF, h1, hN]
  repeat first|refine n1 ?_|(refine rg 9 [0, 1, 2, 7, 8, 9, 11] [0, 1, 2, 7, 8, 9, 11, 13] [] ?_;simp (maxSteps := 1000000) [hF, hN])
  refine (Move_y s).go [(0, [])] (by simp (maxSteps := 1000000) [hF, hN]) ?_;rintro av X κ ⟨rfl, rfl, rfl⟩;simp (maxSteps := 1000000) [hF, hN]
  repeat first|refine n1 ?_|(refine rg 10 [0, 1, 2, 7, 8, 9, 11, 13] [0, 1, 2, 7, 8, 9, 11, 13, 15] [] ?_;simp (maxSteps := 1000000) [hF, hN])
  refine (Drop_y a).go [(0, [])] (by simp (maxSteps := 1000000) [hF, hN]) ?_;rintro av X κ ⟨rfl, rfl, rfl⟩;simp (maxSteps := 1000000) [hF, hN]
  repeat first|refine n1 ?_|(refine rg 11 [0, 1, 2, 7, 8, 9, 11, 13, 15] [0, 1, 2, 7, 8, 9, 11, 13, 15, 17] [] ?_;simp (maxSteps := 1000000) [hF, hN])
  refine (Up_y a).go [(0, [])] (by simp (maxSteps := 1000000) [hF, hN]) ?_;rintro av X κ ⟨rfl, rfl, rfl⟩;simp (maxSteps := 1000000) [hF, hN]
  repeat first|refine n1 ?_|(refine rg 12 [0, 1, 2, 7, 8, 9, 11, 13, 15, 17] [0, 1, 2, 7, 8, 9, 11, 13, 15, 17, 19] [] ?_;simp (maxSteps := 1000000) [hF, hN])
  refine (Serial_y s).go [(0, [])] (by simp (maxSteps := 1000000) [hF, hN]) ?_;rintro av X κ ⟨rfl, rfl, rfl⟩;simp (maxSteps := 1000000) [hF, hN]
  repeat first|refine n1 ?_|(refine rg 13 [0, 1, 2, 7, 8, 9, 11, 13, 15, 17, 19] [0, 1, 2, 7, 8, 9, 11, 13, 15, 17, 19, 21] [] ?_;simp (maxSteps := 1000000) [hF, hN])
  refine (Keys_y a).go [(0, [])] (by simp (maxSteps := 1000000) [hF, hN]) ?_;rintro av X κ ⟨rfl, rfl, rfl⟩;simp (maxSteps := 1000000) [hF, hN]
  repeat first|refine n1 ?_|(refine rg 14 [0, 1, 2, 7, 8, 9, 11, 13, 15, 17, 19, 21] [0, 1, 2, 7, 8, 9, 11, 13, 15, 17, 19, 21, 23] [] ?_;simp (maxSteps := 1000000) [hF, hN])
  refine (Who_y s).go [(0, [])] (by simp (maxSteps := 1000000) [hF, hN]) ?_;rintro av X κ ⟨rfl, rfl, rfl⟩;simp (maxSteps := 1000000) [hF, hN]
  repeat first|refine n1 ?_|(refine rg 15 [0, 1, 2, 7, 8, 9, 11, 13, 15, 17, 19, 21, 23] [0, 1, 2, 7, 8, 9, 11, 13, 15, 17, 19, 21, 23, 25] [] ?_;simp (maxSteps := 1000000) [hF, hN])
  refine (All_y a).go [(0, [])] (by simp (maxSteps := 1000000) [hF, hN]) ?_;rintro av X κ ⟨rfl, rfl, rfl⟩;simp (maxSteps := 1000000) [hF, hN]
  repeat first|refine n1 ?_|(refine rg 16 [0, 1, 2, 7, 8, 9, 11, 13, 15, 17, 19, 21, 23, 25] [0, 1, 2, 7, 8, 9, 26] [] ?_;simp (maxSteps := 1000000) [hF, hN])
  refine (Rely_y a s).go [(0, [])] (by simp (maxSteps := 1000000) [hF, hN]) ?_;rintro av X κ ⟨rfl, rfl, rfl⟩;simp (maxSteps := 1000000) [hF, hN]
  refine (Into_y a c).go [(0, [])] (by simp (maxSteps := 1000000) [hF, hN]) ?_;rintro av X κ ⟨rfl, rfl, rfl⟩;simp (maxSteps := 1000000) [hF, hN]
  refine (Renew_y a).go [(0, [])] (by simp (maxSteps := 1000000) [hF, hN]) ?_;rintro av X κ ⟨rfl, rfl, rfl⟩;simp (maxSteps := 1000000) [hF, hN]
  repeat first|refine n1 ?_|refine n3 ?_|(refine rg 17 [0, 1, 2, 7, 8, 9, 26] [0, 1, 2, 7, 8, 9, 26, 27] [] ?_;simp (maxSteps := 1000000) [hF, hN])
  refine VS.pick [0, 1, 2, 7, 8, 9, 26, 27] [0, 2] (by simp [hF]) ?_;simp [hF]
  refine VS.rounds (fun m2 st => ∃ (j : Nat), j + m2 = 11 ∧ st = ⟨[(0, avInt a), (1, avInt c), (2, avStr s), (7, avNil), (8, avInt 1), (9, .ptr 0 [.d]), (26, .sub 1 [] 0 11 true), (27, avInt j)], [dZ, .sl true () 1 (dOnes 11)], [], []⟩) ⟨11, 0, by omega, by simp [dOnes, dInts, sq, dInt, List.replicate, hN]; try rfl⟩ ?_
  rintro m2 st ⟨j, hj, rfl⟩
  repeat first|refine n1 ?_|((first|refine rg 18 [0, 1, 2, 7, 8, 9, 26, 27] [0, 1, 2, 7, 8, 9, 26, 27, 109] [] ?_|refine nc ?_);simp (maxSteps := 1000000) [hF])
  refine ⟨fun hlt => ?_, fun hge => ?_⟩
  ·have hlt' : j < 11 := by omega
   have hn := dOnes_nth hlt'
   have hw1 : IntKind.i64.wrap ((j : Int) + 1) = (j + 1 : Nat) := by rw [IntWalk.i64_in _ (by omega)]; rfl
   repeat first|refine n1 ?_|refine n2 ?_|refine n3 ?_|refine n4 ?_|refine n5 ?_|refine n6 ?_|((first|refine rg 19 [0, 1, 2, 7, 8, 9, 26, 27] [0, 1, 2, 7, 8, 9, 26, 27] [] ?_|refine rg 20 [0, 1, 2, 7, 8, 9, 26, 27] [0, 1, 2, 7, 8, 9, 26, 27, 116] [] ?_|refine nc ?_);simp (maxSteps := 1000000) [hF, hn, hlt, hlt', hw1])
   refine nextK.of [0, 1, 2, 7, 8, 9, 26, 27] [0, 1] (m2 - 1) (by omega) (by simp [hF]) ?_
   refine ⟨j + 1, by omega, ?_⟩
   simp [hN]
  ·repeat first|refine n1 ?_|refine n7 ?_|(refine rg 22 [0, 1, 2, 7, 8, 9] [0, 1, 2, 7, 8, 125] [(4, 121)] ?_;simp (maxSteps := 1000000) [hF])
   refine (Moves_y).go [(0, [])] (by simp (maxSteps := 1000000) [hF, w00, hN]) ?_;rintro av X κ ⟨rfl, rfl, rfl⟩;simp (maxSteps := 1000000) [hF, w00, hN]
   refine (Copy_y).go [(0, [])] (by simp (maxSteps := 1000000) [hF, w00, hN]) ?_;rintro av X κ ⟨rfl, rfl, rfl⟩;simp (maxSteps := 1000000) [hF, w00, hN]
   repeat first|refine n2 ?_|refine n4 ?_|refine n5 ?_|refine n6 ?_|((first|refine rg 4 [0, 1, 2, 7, 8] [0, 1, 2, 7, 8] [] ?_|refine nc ?_);simp (maxSteps := 1000000) [hF, w00, hN])
   refine nextK.of [0, 1, 2, 7, 8] [] (0) (by omega) (by simp [hF]) ?_
   exact ⟨2, rfl, rfl⟩
 ·repeat first|refine n1 ?_|refine n7 ?_|((first|refine rg 3 [0, 1, 2, 7, 8] [0, 1, 2, 7, 8, 29] [] ?_|refine rg 24 [] [6] [] ?_|refine nc ?_);simp (maxSteps := 1000000) [hF])
  refine (sane_ok).go [] (by simp (maxSteps := 1000000) [hF]) ?_;rintro av X κ ⟨rfl, rfl, rfl⟩;simp (maxSteps := 1000000) [hF]
  (try refine nr ?_);(repeat first|refine nb_ ?_|refine nl_ ?_);refine endK.o [6] [] [] ?_;simp [hF, retK, covers, mpre]
end Go.Proofs.Ytipokdbfdingmaa

/- Proved: GroundNothing returns true for every input, and its arguments read behind the call as before. No condition. -/
namespace Go.Proofs.Ytipokdbfdingmaa.groundNothing
set_option linter.all false
open Go.Vc Go.ChangeShapes Go.WideShapes Go.ChangeAt Go.RowKit
set_option linter.unusedVariables false
theorem own : ownKnob Try.prog.godebug = none := by kernel_rfl
theorem laid : laidOutB Try.prog = true := by kernel_rfl
set_option maxRecDepth 100000 in
theorem lifted (os : Os) (started : os.Started) (H : Type) (enc : TypeId × Value → H) :
    ReturnsInHanded {} Try.checked os 8 .any (Rows.groundNothingSpec.pre6 enc Try.prog Try.f8 Rows.groundNothingRow.domain false) (Rows.groundNothingSpec.post enc Try.prog Try.f8 false true false false) := by
  refine returnsInHanded_of_change (C := Try.checked) own started (by kernel_rfl) Try.func8
    (ChangeSpec.witness6 (enc := enc) (C := Try.checked) false ⟨#[], #[.int .i64 0, .int .i64 0, .string .empty], []⟩ 8 (by kernel_rfl) (by kernel_rfl) (by kernel_rfl) (by kernel_rfl)) ?_
  intro W base args ds gs before hval0 hW hcnd _
  have hval : ∀ (j : Nat) t v, Try.f8.params[j]? = some t → args[j]? = some v → Value.okWide Try.prog W .any base t v := hval0
  have hW' := hW
  obtain ⟨p, q, hA0, hV, rfl, hfz, hnd⟩ := hW
  have hA : DataW.TrodAll enc Try.prog W 0 (fun _ => true) true Try.f8.params.toList args.toList ds p := hA0
  rw [Try.params8] at hA hval
  obtain ⟨v0, vs0, d0, ds0, p0, q0, hargs0, rfl, rfl, h0, r0⟩ := trodAll_cons hA
  obtain ⟨v1, vs1, d1, ds1, p1, q1, hargs1, rfl, rfl, h1, r1⟩ := trodAll_cons r0
  obtain ⟨v2, vs2, d2, ds2, p2, q2, hargs2, rfl, rfl, h2, r2⟩ := trodAll_cons r1
  obtain ⟨rfl, rfl, rfl⟩ := trodAll_nil r2
  subst hargs2
  subst hargs1
  obtain rfl : args = #[v0, v1, v2] := by cases args; simp_all
  obtain ⟨rfl, rfl⟩ := trodVars_none hV
  obtain ⟨a0, hr0⟩ := int_of (hval 0 3 v0 rfl rfl) h0
  obtain ⟨a1, hr1⟩ := int_of (hval 1 3 v1 rfl rfl) h1
  obtain ⟨a2, hr2⟩ := str_of (hval 2 9 v2 rfl rfl) h2
  clear hA0 hval0
  have hwalk : Calls Try.prog 8 #[v0, v1, v2] W fun e w' => e = .returned (.bool true) ∧ Below W.heap.size W w' :=
    Meets.law (nothing_ok a0 a1 a2) (vs := [v0, v1, v2]) (I := allB W) (fun _ h => h) ⟨v0, _, rfl, hr0, ⟨v1, _, rfl, hr1, ⟨v2, _, rfl, hr2, rfl⟩⟩⟩
  refine hwalk.mono fun e W' ⟨he, bel⟩ => ?_
  subst he
  exact ⟨_, rfl, _, _, _, [], _, [], hW', trodAll_mk1 (shut_bool Try.underlying4 _), (trodAll_cons_mk (Below.trod laid (by kernel_rfl) (of_decide_eq_true (by kernel_rfl)) h0 bel fun x hx => hW'.lt x (by simp [hx])) (trodAll_cons_mk (Below.trod laid (by kernel_rfl) (of_decide_eq_true (by kernel_rfl)) h1 bel fun x hx => hW'.lt x (by simp [hx])) (trodAll_cons_mk (Below.trod laid (by kernel_rfl) (of_decide_eq_true (by kernel_rfl)) h2 bel fun x hx => hW'.lt x (by simp [hx])) trodAll_mk0))), rfl, bel.frame _, fun h => by cases h⟩
theorem over : Rows.groundNothingRow.holds Try.pinned (OpenSpec.ofChange Rows.groundNothingSpec) :=
  OpenClaim.holds_of_wide 8 Try.f8 rfl rfl rfl rfl rfl rfl rfl ⟨rfl, rfl, rfl, rfl, rfl⟩ rfl rfl rfl rfl rfl (by kernel_rfl) Try.func8 (by kernel_rfl)
    (of_decide_eq_true (by kernel_rfl)) (by unfold Func.isWrapper; first | (rw [if_pos (by decide +kernel)]; kernel_rfl) | (rw [if_neg (by decide +kernel)]; exact ⟨rfl, rfl⟩))
    (fun os started H enc _ => lifted os started H enc)
theorem proved : Rows.GroundNothingSaid :=
  over
end Go.Proofs.Ytipokdbfdingmaa.groundNothing
