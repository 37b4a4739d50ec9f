/- A space that is nil. -/
import Derived.Test.YthcndkpkkaphoaaK4
import Derived.Test.YthcndkpkkaphoaaK3
import Derived.ChangeArms
import Derived.ChangeSlices
import Derived.Carry
namespace Go.Proofs.Ythcndkpkkaphoaa
set_option linter.all false
open Go.Vc Go.Proofs
set_option linter.unusedSimpArgs false
set_option maxRecDepth 100000
set_option maxHeartbeats 4000000
attribute [local irreducible] CallW EqK

abbrev avNil : AV := .val (.pointer none)

/- (*cabochon/shape.Space).real -/
theorem real_nil : Meets Try.prog 38 [] (.cons avNil .nil) fun av X κ => av = .val (.bool false) ∧ X = [] ∧ κ = [] := by
  refine Meets.of_vs tabOk Try.func38 (body := ?_) ?_ (by kernel_rfl) Try.ntmps38 (rs := [.tmp 2]) (by kernel_rfl) rfl (by simp [AV.len]) (by simp only [envOf]; exact rfl) ?_
  rotate_left
  · rfl
  intro w0 I0 F0 hF
  repeat first
    | refine VS.seq ?_
    | (refine VS.region tabOk (id := 0) [] (by kernel_rfl) ?_; generalize hK : VS _ _ _ = KK; simp (maxSteps := 1000000) [hF]; (try subst hK); try (refine VS.keep [0] ?_; generalize hK : VS _ _ _ = KK; simp; (try subst hK)))
    | (refine VS.region tabOk (id := 1) [(2, 5)] (by kernel_rfl) ?_; generalize hK : VS _ _ _ = KK; simp (maxSteps := 1000000) [hF]; (try subst hK); try (refine VS.keep [2] ?_; generalize hK : VS _ _ _ = KK; simp; (try subst hK)))
  try refine VS.ret ?_
  repeat first | refine blockN_ret ?_ | refine loopN_ret ?_
  refine endK.of [2] [] [] (by simp [hF]) (by simp [covers, mpre]) ?_
  simp [hF, retK]

/- (*cabochon/shape.Space).has -/
theorem has_nil (o : Int) : Meets Try.prog 48 [] (.cons avNil (.cons (avInt o) .nil)) fun av X κ => av = .val (.bool false) ∧ X = [] ∧ κ = [] := by
  refine Meets.of_vs tabOk Try.func48 (body := ?_) ?_ (by kernel_rfl) Try.ntmps48 (rs := [.tmp 4]) (by kernel_rfl) rfl (by simp [AV.len]) (by simp only [envOf]; exact rfl) ?_
  rotate_left
  · rfl
  intro w0 I0 F0 hF
  repeat first
    | refine VS.seq ?_
    | (refine VS.region tabOk (id := 0) [] (by kernel_rfl) ?_; generalize hK : VS _ _ _ = KK; simp (maxSteps := 1000000) [hF]; (try subst hK); try (refine VS.keep [0, 1] ?_; generalize hK : VS _ _ _ = KK; simp; (try subst hK)))
    | (refine VS.region tabOk (id := 1) [(2, 7), (6, 11)] (by kernel_rfl) ?_; generalize hK : VS _ _ _ = KK; simp (maxSteps := 1000000) [hF]; (try subst hK); try (refine VS.keep [4] ?_; generalize hK : VS _ _ _ = KK; simp; (try subst hK)))
  refine (real_nil).call [] (by simp) (by simp (maxSteps := 1000000) [hF]) (by simp (maxSteps := 1000000) [hF]) (by simp (maxSteps := 1000000) [hF]) ?_
  rintro av X κ ⟨rfl, rfl, rfl⟩
  generalize hK : VS _ _ _ = KK; simp (maxSteps := 1000000) [hF]; (try subst hK)
  try refine VS.ret ?_
  repeat first | refine blockN_ret ?_ | refine loopN_ret ?_
  refine endK.of [4] [] [] (by simp [hF]) (by simp [covers, mpre]) ?_
  simp [hF, retK]

/- (*cabochon/shape.Space).shaped -/
theorem shaped_nil (o : Int) : Meets Try.prog 55 [] (.cons avNil (.cons (avInt o) .nil)) fun av X κ => av = .val (.bool false) ∧ X = [] ∧ κ = [] := by
  refine Meets.of_vs tabOk Try.func55 (body := ?_) ?_ (by kernel_rfl) Try.ntmps55 (rs := [.tmp 4]) (by kernel_rfl) rfl (by simp [AV.len]) (by simp only [envOf]; exact rfl) ?_
  rotate_left
  · rfl
  intro w0 I0 F0 hF
  repeat first
    | refine VS.seq ?_
    | (refine VS.region tabOk (id := 0) [] (by kernel_rfl) ?_; generalize hK : VS _ _ _ = KK; simp (maxSteps := 1000000) [hF]; (try subst hK); try (refine VS.keep [0, 1] ?_; generalize hK : VS _ _ _ = KK; simp; (try subst hK)))
    | (refine VS.region tabOk (id := 1) [(2, 7), (6, 11)] (by kernel_rfl) ?_; generalize hK : VS _ _ _ = KK; simp (maxSteps := 1000000) [hF]; (try subst hK); try (refine VS.keep [4] ?_; generalize hK : VS _ _ _ = KK; simp; (try subst hK)))
  refine (real_nil).call [] (by simp) (by simp (maxSteps := 1000000) [hF]) (by simp (maxSteps := 1000000) [hF]) (by simp (maxSteps := 1000000) [hF]) ?_
  rintro av X κ ⟨rfl, rfl, rfl⟩
  generalize hK : VS _ _ _ = KK; simp (maxSteps := 1000000) [hF]; (try subst hK)
  try refine VS.ret ?_
  repeat first | refine blockN_ret ?_ | refine loopN_ret ?_
  refine endK.of [4] [] [] (by simp [hF]) (by simp [covers, mpre]) ?_
  simp [hF, retK]

/- (*cabochon/shape.Space).ask -/
theorem ask_nil (o : Int) (n : ByteArray) (c : Bool) : Meets Try.prog 40 [] (.cons avNil (.cons (avInt o) (.cons (.val (.string n)) (.cons (.val (.bool c)) .nil)))) fun av X κ => av = avInt 1 ∧ X = [] ∧ κ = [] := by
  refine Meets.of_vs tabOk Try.func40 (body := ?_) ?_ (by kernel_rfl) Try.ntmps40 (rs := [.tmp 8]) (by kernel_rfl) rfl (by simp [AV.len]) (by simp only [envOf]; exact rfl) ?_
  rotate_left
  · rfl
  intro w0 I0 F0 hF
  repeat first
    | refine VS.seq ?_
    | refine VS.block ?_
    | (refine VS.region tabOk (id := 0) [] (by kernel_rfl) ?_; generalize hK : VS _ _ _ = KK; simp (maxSteps := 1000000) [hF]; (try subst hK); try (refine VS.keep [0, 1, 2, 3] ?_; generalize hK : VS _ _ _ = KK; simp; (try subst hK)))
    | (refine VS.region tabOk (id := 1) [] (by kernel_rfl) ?_; generalize hK : VS _ _ _ = KK; simp (maxSteps := 1000000) [hF]; (try subst hK); try (refine VS.keep [0, 1, 2, 3, 9] ?_; generalize hK : VS _ _ _ = KK; simp; (try subst hK)))
  refine (has_nil o).call [] (by simp) (by simp (maxSteps := 1000000) [hF]) (by simp (maxSteps := 1000000) [hF]) (by simp (maxSteps := 1000000) [hF]) ?_
  rintro av X κ ⟨rfl, rfl, rfl⟩
  generalize hK : VS _ _ _ = KK; simp (maxSteps := 1000000) [hF]; (try subst hK)
  repeat first
    | refine VS.seq ?_
    | (refine VS.region tabOk (id := 2) [] (by kernel_rfl) ?_; generalize hK : VS _ _ _ = KK; simp (maxSteps := 1000000) [hF]; (try subst hK); try (refine VS.keep [8] ?_; generalize hK : VS _ _ _ = KK; simp; (try subst hK)))
    | (refine VS.cond ?_; generalize hK1 : VS _ _ _ = KK1; generalize hK2 : VS _ _ _ = KK2; simp (maxSteps := 1000000) [hF]; (try subst hK1); (try subst hK2))
  try refine VS.ret ?_
  repeat first | refine blockN_ret ?_ | refine loopN_ret ?_
  refine endK.of [8] [] [] (by simp [hF]) (by simp [covers, mpre]) ?_
  simp [hF, retK]

/- (*cabochon/shape.Space).Make -/
theorem make_nil : Meets Try.prog 15 [] (.cons avNil .nil) fun av X κ => av = two (0, 1) ∧ X = [] ∧ κ = [] := by
  refine Meets.of_vs tabOk Try.func15 (body := ?_) ?_ (by kernel_rfl) Try.ntmps15 (rs := [.tmp 2, .tmp 3]) (by kernel_rfl) rfl (by simp [AV.len]) (by simp only [envOf]; exact rfl) ?_
  rotate_left
  · rfl
  intro w0 I0 F0 hF
  repeat first
    | refine VS.seq ?_
    | (refine VS.region tabOk (id := 0) [] (by kernel_rfl) ?_; generalize hK : VS _ _ _ = KK; simp (maxSteps := 1000000) [hF]; (try subst hK); try (refine VS.keep [0] ?_; generalize hK : VS _ _ _ = KK; simp; (try subst hK)))
    | (refine VS.region tabOk (id := 1) [] (by kernel_rfl) ?_; generalize hK : VS _ _ _ = KK; simp (maxSteps := 1000000) [hF]; (try subst hK); try (refine VS.keep [0, 6] ?_; generalize hK : VS _ _ _ = KK; simp; (try subst hK)))
  refine (real_nil).call [] (by simp) (by simp (maxSteps := 1000000) [hF]) (by simp (maxSteps := 1000000) [hF]) (by simp (maxSteps := 1000000) [hF]) ?_
  rintro av X κ ⟨rfl, rfl, rfl⟩
  generalize hK : VS _ _ _ = KK; simp (maxSteps := 1000000) [hF]; (try subst hK)
  repeat first
    | refine VS.seq ?_
    | (refine VS.region tabOk (id := 2) [] (by kernel_rfl) ?_; generalize hK : VS _ _ _ = KK; simp (maxSteps := 1000000) [hF]; (try subst hK); try (refine VS.keep [2, 3] ?_; generalize hK : VS _ _ _ = KK; simp; (try subst hK)))
    | (refine VS.cond ?_; generalize hK1 : VS _ _ _ = KK1; generalize hK2 : VS _ _ _ = KK2; simp (maxSteps := 1000000) [hF]; (try subst hK1); (try subst hK2))
  try refine VS.ret ?_
  repeat first | refine blockN_ret ?_ | refine loopN_ret ?_
  refine endK.of [2, 3] [] [] (by simp [hF]) (by simp [covers, mpre]) ?_
  simp [hF, retK]

/- (*cabochon/shape.Space).Set -/
theorem set_nil (o : Int) (n : ByteArray) (w : Int) : Meets Try.prog 17 [] (.cons avNil (.cons (avInt o) (.cons (.val (.string n)) (.cons (avInt w) .nil)))) fun av X κ => av = avInt 1 ∧ X = [] ∧ κ = [] := by
  refine Meets.of_vs tabOk Try.func17 (body := ?_) ?_ (by kernel_rfl) Try.ntmps17 (rs := [.tmp 8]) (by kernel_rfl) rfl (by simp [AV.len]) (by simp only [envOf]; exact rfl) ?_
  rotate_left
  · rfl
  intro w0 I0 F0 hF
  repeat first
    | refine VS.seq ?_
    | (refine VS.region tabOk (id := 0) [] (by kernel_rfl) ?_; generalize hK : VS _ _ _ = KK; simp (maxSteps := 1000000) [hF]; (try subst hK); try (refine VS.keep [0, 1, 2, 3] ?_; generalize hK : VS _ _ _ = KK; simp; (try subst hK)))
    | (refine VS.region tabOk (id := 1) [] (by kernel_rfl) ?_; generalize hK : VS _ _ _ = KK; simp (maxSteps := 1000000) [hF]; (try subst hK); try (refine VS.keep [0, 1, 2, 3, 9] ?_; generalize hK : VS _ _ _ = KK; simp; (try subst hK)))
  refine (ask_nil o n true).call [] (by simp) (by simp (maxSteps := 1000000) [hF]) (by simp (maxSteps := 1000000) [hF]) (by simp (maxSteps := 1000000) [hF]) ?_
  rintro av X κ ⟨rfl, rfl, rfl⟩
  generalize hK : VS _ _ _ = KK; simp (maxSteps := 1000000) [hF]; (try subst hK)
  repeat first
    | refine VS.seq ?_
    | (refine VS.region tabOk (id := 2) [] (by kernel_rfl) ?_; generalize hK : VS _ _ _ = KK; simp (maxSteps := 1000000) [hF]; (try subst hK); try (refine VS.keep [0, 1, 2, 3, 9, 17] ?_; generalize hK : VS _ _ _ = KK; simp; (try subst hK)))
    | (refine VS.region tabOk (id := 3) [] (by kernel_rfl) ?_; generalize hK : VS _ _ _ = KK; simp (maxSteps := 1000000) [hF]; (try subst hK); try (refine VS.keep [8] ?_; generalize hK : VS _ _ _ = KK; simp; (try subst hK)))
    | (refine VS.cond ?_; generalize hK1 : VS _ _ _ = KK1; generalize hK2 : VS _ _ _ = KK2; simp (maxSteps := 1000000) [hF]; (try subst hK1); (try subst hK2))
  try refine VS.ret ?_
  repeat first | refine blockN_ret ?_ | refine loopN_ret ?_
  refine endK.of [8] [] [] (by simp [hF]) (by simp [covers, mpre]) ?_
  simp [hF, retK]

/- (*cabochon/shape.Space).Get -/
theorem get_nil (o : Int) (n : ByteArray) : Meets Try.prog 31 [] (.cons avNil (.cons (avInt o) (.cons (.val (.string n)) .nil))) fun av X κ => av = two (0, 1) ∧ X = [] ∧ κ = [] := by
  refine Meets.of_vs tabOk Try.func31 (body := ?_) ?_ (by kernel_rfl) Try.ntmps31 (rs := [.tmp 6, .tmp 7]) (by kernel_rfl) rfl (by simp [AV.len]) (by simp only [envOf]; exact rfl) ?_
  rotate_left
  · rfl
  intro w0 I0 F0 hF
  repeat first
    | refine VS.seq ?_
    | (refine VS.region tabOk (id := 0) [] (by kernel_rfl) ?_; generalize hK : VS _ _ _ = KK; simp (maxSteps := 1000000) [hF]; (try subst hK); try (refine VS.keep [0, 1, 2] ?_; generalize hK : VS _ _ _ = KK; simp; (try subst hK)))
    | (refine VS.region tabOk (id := 1) [] (by kernel_rfl) ?_; generalize hK : VS _ _ _ = KK; simp (maxSteps := 1000000) [hF]; (try subst hK); try (refine VS.keep [0, 1, 2, 8] ?_; generalize hK : VS _ _ _ = KK; simp; (try subst hK)))
  refine (ask_nil o n false).call [] (by simp) (by simp (maxSteps := 1000000) [hF]) (by simp (maxSteps := 1000000) [hF]) (by simp (maxSteps := 1000000) [hF]) ?_
  rintro av X κ ⟨rfl, rfl, rfl⟩
  generalize hK : VS _ _ _ = KK; simp (maxSteps := 1000000) [hF]; (try subst hK)
  repeat first
    | refine VS.seq ?_
    | (refine VS.region tabOk (id := 2) [] (by kernel_rfl) ?_; generalize hK : VS _ _ _ = KK; simp (maxSteps := 1000000) [hF]; (try subst hK); try (refine VS.keep [0, 1, 2, 8, 15] ?_; generalize hK : VS _ _ _ = KK; simp; (try subst hK)))
    | (refine VS.region tabOk (id := 3) [] (by kernel_rfl) ?_; generalize hK : VS _ _ _ = KK; simp (maxSteps := 1000000) [hF]; (try subst hK); try (refine VS.keep [6, 7] ?_; generalize hK : VS _ _ _ = KK; simp; (try subst hK)))
    | (refine VS.cond ?_; generalize hK1 : VS _ _ _ = KK1; generalize hK2 : VS _ _ _ = KK2; simp (maxSteps := 1000000) [hF]; (try subst hK1); (try subst hK2))
  try refine VS.ret ?_
  repeat first | refine blockN_ret ?_ | refine loopN_ret ?_
  refine endK.of [6, 7] [] [] (by simp [hF]) (by simp [covers, mpre]) ?_
  simp [hF, retK]

/- (*cabochon/shape.Space).Delete -/
theorem delete_nil (o : Int) (n : ByteArray) : Meets Try.prog 49 [] (.cons avNil (.cons (avInt o) (.cons (.val (.string n)) .nil))) fun av X κ => av = two (0, 1) ∧ X = [] ∧ κ = [] := by
  refine Meets.of_vs tabOk Try.func49 (body := ?_) ?_ (by kernel_rfl) Try.ntmps49 (rs := [.tmp 6, .tmp 7]) (by kernel_rfl) rfl (by simp [AV.len]) (by simp only [envOf]; exact rfl) ?_
  rotate_left
  · rfl
  intro w0 I0 F0 hF
  repeat first
    | refine VS.seq ?_
    | (refine VS.region tabOk (id := 0) [] (by kernel_rfl) ?_; generalize hK : VS _ _ _ = KK; simp (maxSteps := 1000000) [hF]; (try subst hK); try (refine VS.keep [0, 1, 2] ?_; generalize hK : VS _ _ _ = KK; simp; (try subst hK)))
    | (refine VS.region tabOk (id := 1) [] (by kernel_rfl) ?_; generalize hK : VS _ _ _ = KK; simp (maxSteps := 1000000) [hF]; (try subst hK); try (refine VS.keep [0, 1, 2, 8] ?_; generalize hK : VS _ _ _ = KK; simp; (try subst hK)))
  refine (ask_nil o n true).call [] (by simp) (by simp (maxSteps := 1000000) [hF]) (by simp (maxSteps := 1000000) [hF]) (by simp (maxSteps := 1000000) [hF]) ?_
  rintro av X κ ⟨rfl, rfl, rfl⟩
  generalize hK : VS _ _ _ = KK; simp (maxSteps := 1000000) [hF]; (try subst hK)
  repeat first
    | refine VS.seq ?_
    | (refine VS.region tabOk (id := 2) [] (by kernel_rfl) ?_; generalize hK : VS _ _ _ = KK; simp (maxSteps := 1000000) [hF]; (try subst hK); try (refine VS.keep [0, 1, 2, 8, 19] ?_; generalize hK : VS _ _ _ = KK; simp; (try subst hK)))
    | (refine VS.region tabOk (id := 3) [] (by kernel_rfl) ?_; generalize hK : VS _ _ _ = KK; simp (maxSteps := 1000000) [hF]; (try subst hK); try (refine VS.keep [6, 7] ?_; generalize hK : VS _ _ _ = KK; simp; (try subst hK)))
    | (refine VS.cond ?_; generalize hK1 : VS _ _ _ = KK1; generalize hK2 : VS _ _ _ = KK2; simp (maxSteps := 1000000) [hF]; (try subst hK1); (try subst hK2))
  try refine VS.ret ?_
  repeat first | refine blockN_ret ?_ | refine loopN_ret ?_
  refine endK.of [6, 7] [] [] (by simp [hF]) (by simp [covers, mpre]) ?_
  simp [hF, retK]

/- (*cabochon/shape.Space).Freeze -/
theorem freeze_nil (o : Int) : Meets Try.prog 50 [] (.cons avNil (.cons (avInt o) .nil)) fun av X κ => av = avInt 1 ∧ X = [] ∧ κ = [] := by
  refine Meets.of_vs tabOk Try.func50 (body := ?_) ?_ (by kernel_rfl) Try.ntmps50 (rs := [.tmp 4]) (by kernel_rfl) rfl (by simp [AV.len]) (by simp only [envOf]; exact rfl) ?_
  rotate_left
  · rfl
  intro w0 I0 F0 hF
  repeat first
    | refine VS.seq ?_
    | (refine VS.region tabOk (id := 0) [] (by kernel_rfl) ?_; generalize hK : VS _ _ _ = KK; simp (maxSteps := 1000000) [hF]; (try subst hK); try (refine VS.keep [0, 1] ?_; generalize hK : VS _ _ _ = KK; simp; (try subst hK)))
    | (refine VS.region tabOk (id := 1) [] (by kernel_rfl) ?_; generalize hK : VS _ _ _ = KK; simp (maxSteps := 1000000) [hF]; (try subst hK); try (refine VS.keep [0, 1, 8] ?_; generalize hK : VS _ _ _ = KK; simp; (try subst hK)))
  refine (has_nil o).call [] (by simp) (by simp (maxSteps := 1000000) [hF]) (by simp (maxSteps := 1000000) [hF]) (by simp (maxSteps := 1000000) [hF]) ?_
  rintro av X κ ⟨rfl, rfl, rfl⟩
  generalize hK : VS _ _ _ = KK; simp (maxSteps := 1000000) [hF]; (try subst hK)
  repeat first
    | refine VS.seq ?_
    | (refine VS.region tabOk (id := 2) [] (by kernel_rfl) ?_; generalize hK : VS _ _ _ = KK; simp (maxSteps := 1000000) [hF]; (try subst hK); try (refine VS.keep [4] ?_; generalize hK : VS _ _ _ = KK; simp; (try subst hK)))
    | (refine VS.cond ?_; generalize hK1 : VS _ _ _ = KK1; generalize hK2 : VS _ _ _ = KK2; simp (maxSteps := 1000000) [hF]; (try subst hK1); (try subst hK2))
  try refine VS.ret ?_
  repeat first | refine blockN_ret ?_ | refine loopN_ret ?_
  refine endK.of [4] [] [] (by simp [hF]) (by simp [covers, mpre]) ?_
  simp [hF, retK]

/- (*cabochon/shape.Space).Clone -/
theorem clone_nil (o : Int) : Meets Try.prog 32 [] (.cons avNil (.cons (avInt o) .nil)) fun av X κ => av = two (0, 1) ∧ X = [] ∧ κ = [] := by
  refine Meets.of_vs tabOk Try.func32 (body := ?_) ?_ (by kernel_rfl) Try.ntmps32 (rs := [.tmp 4, .tmp 5]) (by kernel_rfl) rfl (by simp [AV.len]) (by simp only [envOf]; exact rfl) ?_
  rotate_left
  · rfl
  intro w0 I0 F0 hF
  repeat first
    | refine VS.seq ?_
    | (refine VS.region tabOk (id := 0) [] (by kernel_rfl) ?_; generalize hK : VS _ _ _ = KK; simp (maxSteps := 1000000) [hF]; (try subst hK); try (refine VS.keep [0, 1] ?_; generalize hK : VS _ _ _ = KK; simp; (try subst hK)))
    | (refine VS.region tabOk (id := 1) [] (by kernel_rfl) ?_; generalize hK : VS _ _ _ = KK; simp (maxSteps := 1000000) [hF]; (try subst hK); try (refine VS.keep [0, 1, 10] ?_; generalize hK : VS _ _ _ = KK; simp; (try subst hK)))
  refine (has_nil o).call [] (by simp) (by simp (maxSteps := 1000000) [hF]) (by simp (maxSteps := 1000000) [hF]) (by simp (maxSteps := 1000000) [hF]) ?_
  rintro av X κ ⟨rfl, rfl, rfl⟩
  generalize hK : VS _ _ _ = KK; simp (maxSteps := 1000000) [hF]; (try subst hK)
  repeat first
    | refine VS.seq ?_
    | (refine VS.region tabOk (id := 2) [] (by kernel_rfl) ?_; generalize hK : VS _ _ _ = KK; simp (maxSteps := 1000000) [hF]; (try subst hK); try (refine VS.keep [4, 5] ?_; generalize hK : VS _ _ _ = KK; simp; (try subst hK)))
    | (refine VS.cond ?_; generalize hK1 : VS _ _ _ = KK1; generalize hK2 : VS _ _ _ = KK2; simp (maxSteps := 1000000) [hF]; (try subst hK1); (try subst hK2))
  try refine VS.ret ?_
  repeat first | refine blockN_ret ?_ | refine loopN_ret ?_
  refine endK.of [4, 5] [] [] (by simp [hF]) (by simp [covers, mpre]) ?_
  simp [hF, retK]

/- (*cabochon/shape.Space).Names -/
theorem names_nil (o : Int) : Meets Try.prog 27 [] (.cons avNil (.cons (avInt o) .nil)) fun av X κ => av = .tup (.cons (.nils 1) (.cons (avInt 1) .nil)) ∧ X = [] ∧ κ = [] := by
  refine Meets.of_vs tabOk Try.func27 (body := ?_) ?_ (by kernel_rfl) Try.ntmps27 (rs := [.tmp 4, .tmp 5]) (by kernel_rfl) rfl (by simp [AV.len]) (by simp only [envOf]; exact rfl) ?_
  rotate_left
  · rfl
  intro w0 I0 F0 hF
  repeat first
    | refine VS.seq ?_
    | (refine VS.region tabOk (id := 0) [] (by kernel_rfl) ?_; generalize hK : VS _ _ _ = KK; simp (maxSteps := 1000000) [hF]; (try subst hK); try (refine VS.keep [0, 1] ?_; generalize hK : VS _ _ _ = KK; simp; (try subst hK)))
    | (refine VS.region tabOk (id := 1) [] (by kernel_rfl) ?_; generalize hK : VS _ _ _ = KK; simp (maxSteps := 1000000) [hF]; (try subst hK); try (refine VS.keep [0, 1, 9] ?_; generalize hK : VS _ _ _ = KK; simp; (try subst hK)))
  refine (has_nil o).call [] (by simp) (by simp (maxSteps := 1000000) [hF]) (by simp (maxSteps := 1000000) [hF]) (by simp (maxSteps := 1000000) [hF]) ?_
  rintro av X κ ⟨rfl, rfl, rfl⟩
  generalize hK : VS _ _ _ = KK; simp (maxSteps := 1000000) [hF]; (try subst hK)
  repeat first
    | refine VS.seq ?_
    | (refine VS.region tabOk (id := 2) [] (by kernel_rfl) ?_; generalize hK : VS _ _ _ = KK; simp (maxSteps := 1000000) [hF]; (try subst hK); try (refine VS.keep [4, 5] ?_; generalize hK : VS _ _ _ = KK; simp; (try subst hK)))
    | (refine VS.cond ?_; generalize hK1 : VS _ _ _ = KK1; generalize hK2 : VS _ _ _ = KK2; simp (maxSteps := 1000000) [hF]; (try subst hK1); (try subst hK2))
  try refine VS.ret ?_
  repeat first | refine blockN_ret ?_ | refine loopN_ret ?_
  refine endK.of [4, 5] [] [] (by simp [hF]) (by simp [covers, mpre]) ?_
  simp [hF, retK]

/- (*cabochon/shape.Space).Slot -/
theorem slot_nil (o : Int) (n : ByteArray) : Meets Try.prog 34 [] (.cons avNil (.cons (avInt o) (.cons (.val (.string n)) .nil))) fun av X κ => av = two (0, 1) ∧ X = [] ∧ κ = [] := by
  refine Meets.of_vs tabOk Try.func34 (body := ?_) ?_ (by kernel_rfl) Try.ntmps34 (rs := [.tmp 6, .tmp 7]) (by kernel_rfl) rfl (by simp [AV.len]) (by simp only [envOf]; exact rfl) ?_
  rotate_left
  · rfl
  intro w0 I0 F0 hF
  repeat first
    | refine VS.seq ?_
    | (refine VS.region tabOk (id := 0) [] (by kernel_rfl) ?_; generalize hK : VS _ _ _ = KK; simp (maxSteps := 1000000) [hF]; (try subst hK); try (refine VS.keep [0, 1, 2] ?_; generalize hK : VS _ _ _ = KK; simp; (try subst hK)))
    | (refine VS.region tabOk (id := 1) [] (by kernel_rfl) ?_; generalize hK : VS _ _ _ = KK; simp (maxSteps := 1000000) [hF]; (try subst hK); try (refine VS.keep [0, 1, 2, 12] ?_; generalize hK : VS _ _ _ = KK; simp; (try subst hK)))
  refine (shaped_nil o).call [] (by simp) (by simp (maxSteps := 1000000) [hF]) (by simp (maxSteps := 1000000) [hF]) (by simp (maxSteps := 1000000) [hF]) ?_
  rintro av X κ ⟨rfl, rfl, rfl⟩
  generalize hK : VS _ _ _ = KK; simp (maxSteps := 1000000) [hF]; (try subst hK)
  repeat first
    | refine VS.seq ?_
    | (refine VS.region tabOk (id := 2) [] (by kernel_rfl) ?_; generalize hK : VS _ _ _ = KK; simp (maxSteps := 1000000) [hF]; (try subst hK); try (refine VS.keep [6, 7] ?_; generalize hK : VS _ _ _ = KK; simp; (try subst hK)))
    | (refine VS.cond ?_; generalize hK1 : VS _ _ _ = KK1; generalize hK2 : VS _ _ _ = KK2; simp (maxSteps := 1000000) [hF]; (try subst hK1); (try subst hK2))
  try refine VS.ret ?_
  repeat first | refine blockN_ret ?_ | refine loopN_ret ?_
  refine endK.of [6, 7] [] [] (by simp [hF]) (by simp [covers, mpre]) ?_
  simp [hF, retK]

/- (*cabochon/shape.Space).Shapes -/
theorem shapes_nil : Meets Try.prog 21 [] (.cons avNil .nil) fun av X κ => av = avInt 0 ∧ X = [] ∧ κ = [] := by
  refine Meets.of_vs tabOk Try.func21 (body := ?_) ?_ (by kernel_rfl) Try.ntmps21 (rs := [.tmp 2]) (by kernel_rfl) rfl (by simp [AV.len]) (by simp only [envOf]; exact rfl) ?_
  rotate_left
  · rfl
  intro w0 I0 F0 hF
  repeat first
    | refine VS.seq ?_
    | (refine VS.region tabOk (id := 0) [] (by kernel_rfl) ?_; generalize hK : VS _ _ _ = KK; simp (maxSteps := 1000000) [hF]; (try subst hK); try (refine VS.keep [0] ?_; generalize hK : VS _ _ _ = KK; simp; (try subst hK)))
    | (refine VS.region tabOk (id := 1) [] (by kernel_rfl) ?_; generalize hK : VS _ _ _ = KK; simp (maxSteps := 1000000) [hF]; (try subst hK); try (refine VS.keep [0, 5] ?_; generalize hK : VS _ _ _ = KK; simp; (try subst hK)))
  refine (real_nil).call [] (by simp) (by simp (maxSteps := 1000000) [hF]) (by simp (maxSteps := 1000000) [hF]) (by simp (maxSteps := 1000000) [hF]) ?_
  rintro av X κ ⟨rfl, rfl, rfl⟩
  generalize hK : VS _ _ _ = KK; simp (maxSteps := 1000000) [hF]; (try subst hK)
  repeat first
    | refine VS.seq ?_
    | (refine VS.region tabOk (id := 2) [] (by kernel_rfl) ?_; generalize hK : VS _ _ _ = KK; simp (maxSteps := 1000000) [hF]; (try subst hK); try (refine VS.keep [2] ?_; generalize hK : VS _ _ _ = KK; simp; (try subst hK)))
    | (refine VS.cond ?_; generalize hK1 : VS _ _ _ = KK1; generalize hK2 : VS _ _ _ = KK2; simp (maxSteps := 1000000) [hF]; (try subst hK1); (try subst hK2))
  try refine VS.ret ?_
  repeat first | refine blockN_ret ?_ | refine loopN_ret ?_
  refine endK.of [2] [] [] (by simp [hF]) (by simp [covers, mpre]) ?_
  simp [hF, retK]

/- (*cabochon/shape.Space).Copy -/
theorem copy_nil : Meets Try.prog 33 [] (.cons avNil .nil) fun av X κ => av = avNil ∧ X = [] ∧ κ = [] := by
  refine Meets.of_vs tabOk Try.func33 (body := ?_) ?_ (by kernel_rfl) Try.ntmps33 (rs := [.tmp 2]) (by kernel_rfl) rfl (by simp [AV.len]) (by simp only [envOf]; exact rfl) ?_
  rotate_left
  · rfl
  intro w0 I0 F0 hF
  repeat first
    | refine VS.seq ?_
    | (refine VS.region tabOk (id := 0) [] (by kernel_rfl) ?_; generalize hK : VS _ _ _ = KK; simp (maxSteps := 1000000) [hF]; (try subst hK); try (refine VS.keep [0] ?_; generalize hK : VS _ _ _ = KK; simp; (try subst hK)))
    | (refine VS.region tabOk (id := 1) [] (by kernel_rfl) ?_; generalize hK : VS _ _ _ = KK; simp (maxSteps := 1000000) [hF]; (try subst hK); try (refine VS.keep [0, 8] ?_; generalize hK : VS _ _ _ = KK; simp; (try subst hK)))
  refine (real_nil).call [] (by simp) (by simp (maxSteps := 1000000) [hF]) (by simp (maxSteps := 1000000) [hF]) (by simp (maxSteps := 1000000) [hF]) ?_
  rintro av X κ ⟨rfl, rfl, rfl⟩
  generalize hK : VS _ _ _ = KK; simp (maxSteps := 1000000) [hF]; (try subst hK)
  repeat first
    | refine VS.seq ?_
    | (refine VS.region tabOk (id := 2) [] (by kernel_rfl) ?_; generalize hK : VS _ _ _ = KK; simp (maxSteps := 1000000) [hF]; (try subst hK); try (refine VS.keep [2] ?_; generalize hK : VS _ _ _ = KK; simp; (try subst hK)))
    | (refine VS.cond ?_; generalize hK1 : VS _ _ _ = KK1; generalize hK2 : VS _ _ _ = KK2; simp (maxSteps := 1000000) [hF]; (try subst hK1); (try subst hK2))
  try refine VS.ret ?_
  repeat first | refine blockN_ret ?_ | refine loopN_ret ?_
  refine endK.of [2] [] [] (by simp [hF]) (by simp [covers, mpre]) ?_
  simp [hF, retK]

/- (*cabochon/shape.Space).Copy -/
theorem copy_unmade (S : Sp) (h : realB S = false) : Meets Try.prog 33 [dSp S] (.cons (.ptr 0 [.d]) .nil) fun av X κ => av = avNil ∧ X = [dSp S] ∧ κ = [] := by
  refine Meets.of_vs tabOk Try.func33 (body := ?_) ?_ (by kernel_rfl) Try.ntmps33 (rs := [.tmp 2]) (by kernel_rfl) rfl (by simp [AV.len]) (by simp only [envOf]; exact rfl) ?_
  rotate_left
  · rfl
  intro w0 I0 F0 hF
  repeat first
    | refine VS.seq ?_
    | (refine VS.region tabOk (id := 0) [] (by kernel_rfl) ?_; generalize hK : VS _ _ _ = KK; simp (maxSteps := 1000000) [hF]; (try subst hK); try (refine VS.keep [0] ?_; generalize hK : VS _ _ _ = KK; simp; (try subst hK)))
    | (refine VS.region tabOk (id := 1) [] (by kernel_rfl) ?_; generalize hK : VS _ _ _ = KK; simp (maxSteps := 1000000) [hF]; (try subst hK); try (refine VS.keep [0, 8] ?_; generalize hK : VS _ _ _ = KK; simp; (try subst hK)))
  refine (real_ok S).call [(0, [])] (by simp) (by simp (maxSteps := 1000000) [hF, dSp, h]) (by simp (maxSteps := 1000000) [hF, dSp, h]) (by simp (maxSteps := 1000000) [hF, dSp, h]) ?_
  rintro av X κ ⟨rfl, rfl, rfl⟩
  generalize hK : VS _ _ _ = KK; simp (maxSteps := 1000000) [hF, dSp, h]; (try subst hK)
  repeat first
    | refine VS.seq ?_
    | (refine VS.region tabOk (id := 2) [] (by kernel_rfl) ?_; generalize hK : VS _ _ _ = KK; simp (maxSteps := 1000000) [hF]; (try subst hK); try (refine VS.keep [2] ?_; generalize hK : VS _ _ _ = KK; simp; (try subst hK)))
    | (refine VS.cond ?_; generalize hK1 : VS _ _ _ = KK1; generalize hK2 : VS _ _ _ = KK2; simp (maxSteps := 1000000) [hF]; (try subst hK1); (try subst hK2))
  try refine VS.ret ?_
  repeat first | refine blockN_ret ?_ | refine loopN_ret ?_
  refine endK.of [2] [0] [] (by simp [hF]) (by simp [covers, mpre]) ?_
  simp [hF, retK, dSp]
end Go.Proofs.Ythcndkpkkaphoaa

/- ShapeNothing: a space that is nil, or was not made, has nothing. -/
namespace Go.Proofs.Ythcndkpkkaphoaa
set_option linter.all false
open Go.Vc Go.Proofs
set_option linter.unusedSimpArgs false
set_option maxRecDepth 100000
set_option maxHeartbeats 4000000
attribute [local irreducible] CallW EqK

/- cabochon/cabochonlaw20.do -/
theorem do_nil (d : Deed) (h : 0 ≤ d.op ∧ d.op < 6) : Meets Try.prog 25 [] (.cons avNil (.cons (avDeed d) .nil))
    fun av X κ => av = two (0, 1) ∧ X = [] ∧ κ = [] := by
  unfold avDeed
  refine Meets.of_vs tabOk Try.func25 (body := ?_) ?_ (by kernel_rfl) Try.ntmps25 (rs := [.tmp 4, .tmp 5]) (by kernel_rfl) rfl (by simp [AV.len]) (by simp only [envOf]; exact rfl) ?_
  rotate_left
  · rfl
  intro w0 I0 F0 hF
  repeat first
    | refine VS.seq ?_
    | refine VS.block ?_
    | (refine VS.keepAt 0 [0, 1] ?_; generalize hK : VS _ _ _ = KK; (try simp); (try subst hK); refine VS.region tabOk (id := 0) [] (by kernel_rfl) ?_; generalize hK : VS _ _ _ = KK; simp (maxSteps := 1000000) [hF]; (try subst hK); try (refine VS.keep [0, 3] ?_; generalize hK : VS _ _ _ = KK; simp; (try subst hK)))
    | (refine VS.keepAt 1 [0, 3] ?_; generalize hK : VS _ _ _ = KK; (try simp); (try subst hK); refine VS.region tabOk (id := 1) [] (by kernel_rfl) ?_; generalize hK : VS _ _ _ = KK; simp (maxSteps := 1000000) [hF]; (try subst hK); try (refine VS.keep [0, 3, 7] ?_; generalize hK : VS _ _ _ = KK; simp; (try subst hK)))
    | (refine VS.keepAt 2 [0, 3, 7] ?_; generalize hK : VS _ _ _ = KK; (try simp); (try subst hK); refine VS.region tabOk (id := 2) [] (by kernel_rfl) ?_; generalize hK : VS _ _ _ = KK; simp (maxSteps := 1000000) [hF]; (try subst hK); try (refine VS.keep [0, 3, 7, 8] ?_; generalize hK : VS _ _ _ = KK; simp; (try subst hK)))
    | (refine VS.cond ?_; generalize hK1 : VS _ _ _ = KK1; generalize hK2 : VS _ _ _ = KK2; simp (maxSteps := 1000000) [hF]; (try subst hK1); (try subst hK2))
  refine ⟨fun h0 => ?_, fun h0 => ?_⟩
  · repeat first
      | refine VS.seq ?_
      | (refine VS.keepAt 3 [0] ?_; generalize hK : VS _ _ _ = KK; (try simp); (try subst hK); refine VS.region tabOk (id := 3) [] (by kernel_rfl) ?_; generalize hK : VS _ _ _ = KK; simp (maxSteps := 1000000) [hF]; (try subst hK); try (refine VS.keep [4, 5] ?_; generalize hK : VS _ _ _ = KK; simp; (try subst hK)))
    refine (make_nil).call [] (by simp) (by simp (maxSteps := 1000000) [hF]) (by simp (maxSteps := 1000000) [hF]) (by simp (maxSteps := 1000000) [hF]) ?_
    rintro av X κ ⟨rfl, rfl, rfl⟩
    generalize hK : VS _ _ _ = KK; simp (maxSteps := 1000000) [hF]; (try subst hK)
    try refine VS.ret ?_
    repeat first | refine blockN_ret ?_ | refine loopN_ret ?_
    refine endK.of [4, 5] [] [] (by simp [hF]) (by simp [covers, mpre]) ?_
    simp [hF, retK]
  repeat first
    | refine VS.seq ?_
    | (refine VS.keepAt 4 [0, 3, 7] ?_; generalize hK : VS _ _ _ = KK; (try simp); (try subst hK); refine VS.region tabOk (id := 4) [] (by kernel_rfl) ?_; generalize hK : VS _ _ _ = KK; simp (maxSteps := 1000000) [hF]; (try subst hK); try (refine VS.keep [0, 3, 7, 14] ?_; generalize hK : VS _ _ _ = KK; simp; (try subst hK)))
    | (refine VS.cond ?_; generalize hK1 : VS _ _ _ = KK1; generalize hK2 : VS _ _ _ = KK2; simp (maxSteps := 1000000) [hF]; (try subst hK1); (try subst hK2))
  refine ⟨fun h1 => ?_, fun h1 => ?_⟩
  · repeat first
      | refine VS.seq ?_
      | (refine VS.keepAt 5 [0, 3] ?_; generalize hK : VS _ _ _ = KK; (try simp); (try subst hK); refine VS.region tabOk (id := 5) [] (by kernel_rfl) ?_; generalize hK : VS _ _ _ = KK; simp (maxSteps := 1000000) [hF]; (try subst hK); try (refine VS.keep [4, 5] ?_; generalize hK : VS _ _ _ = KK; simp; (try subst hK)))
    refine (set_nil d.obj d.name d.word).call [] (by simp) (by simp (maxSteps := 1000000) [hF]) (by simp (maxSteps := 1000000) [hF]) (by simp (maxSteps := 1000000) [hF]) ?_
    rintro av X κ ⟨rfl, rfl, rfl⟩
    generalize hK : VS _ _ _ = KK; simp (maxSteps := 1000000) [hF]; (try subst hK)
    try refine VS.ret ?_
    repeat first | refine blockN_ret ?_ | refine loopN_ret ?_
    refine endK.of [4, 5] [] [] (by simp [hF]) (by simp [covers, mpre]) ?_
    simp [hF, retK]
  repeat first
    | refine VS.seq ?_
    | (refine VS.keepAt 6 [0, 3, 7] ?_; generalize hK : VS _ _ _ = KK; (try simp); (try subst hK); refine VS.region tabOk (id := 6) [] (by kernel_rfl) ?_; generalize hK : VS _ _ _ = KK; simp (maxSteps := 1000000) [hF]; (try subst hK); try (refine VS.keep [0, 3, 7, 24] ?_; generalize hK : VS _ _ _ = KK; simp; (try subst hK)))
    | (refine VS.cond ?_; generalize hK1 : VS _ _ _ = KK1; generalize hK2 : VS _ _ _ = KK2; simp (maxSteps := 1000000) [hF]; (try subst hK1); (try subst hK2))
  refine ⟨fun h2 => ?_, fun h2 => ?_⟩
  · repeat first
      | refine VS.seq ?_
      | (refine VS.keepAt 7 [0, 3] ?_; generalize hK : VS _ _ _ = KK; (try simp); (try subst hK); refine VS.region tabOk (id := 7) [] (by kernel_rfl) ?_; generalize hK : VS _ _ _ = KK; simp (maxSteps := 1000000) [hF]; (try subst hK); try (refine VS.keep [4, 5] ?_; generalize hK : VS _ _ _ = KK; simp; (try subst hK)))
    refine (get_nil d.obj d.name).call [] (by simp) (by simp (maxSteps := 1000000) [hF]) (by simp (maxSteps := 1000000) [hF]) (by simp (maxSteps := 1000000) [hF]) ?_
    rintro av X κ ⟨rfl, rfl, rfl⟩
    generalize hK : VS _ _ _ = KK; simp (maxSteps := 1000000) [hF]; (try subst hK)
    try refine VS.ret ?_
    repeat first | refine blockN_ret ?_ | refine loopN_ret ?_
    refine endK.of [4, 5] [] [] (by simp [hF]) (by simp [covers, mpre]) ?_
    simp [hF, retK]
  repeat first
    | refine VS.seq ?_
    | (refine VS.keepAt 8 [0, 3, 7] ?_; generalize hK : VS _ _ _ = KK; (try simp); (try subst hK); refine VS.region tabOk (id := 8) [] (by kernel_rfl) ?_; generalize hK : VS _ _ _ = KK; simp (maxSteps := 1000000) [hF]; (try subst hK); try (refine VS.keep [0, 3, 7, 34] ?_; generalize hK : VS _ _ _ = KK; simp; (try subst hK)))
    | (refine VS.cond ?_; generalize hK1 : VS _ _ _ = KK1; generalize hK2 : VS _ _ _ = KK2; simp (maxSteps := 1000000) [hF]; (try subst hK1); (try subst hK2))
  refine ⟨fun h3 => ?_, fun h3 => ?_⟩
  · repeat first
      | refine VS.seq ?_
      | (refine VS.keepAt 9 [0, 3] ?_; generalize hK : VS _ _ _ = KK; (try simp); (try subst hK); refine VS.region tabOk (id := 9) [] (by kernel_rfl) ?_; generalize hK : VS _ _ _ = KK; simp (maxSteps := 1000000) [hF]; (try subst hK); try (refine VS.keep [4, 5] ?_; generalize hK : VS _ _ _ = KK; simp; (try subst hK)))
    refine (delete_nil d.obj d.name).call [] (by simp) (by simp (maxSteps := 1000000) [hF]) (by simp (maxSteps := 1000000) [hF]) (by simp (maxSteps := 1000000) [hF]) ?_
    rintro av X κ ⟨rfl, rfl, rfl⟩
    generalize hK : VS _ _ _ = KK; simp (maxSteps := 1000000) [hF]; (try subst hK)
    try refine VS.ret ?_
    repeat first | refine blockN_ret ?_ | refine loopN_ret ?_
    refine endK.of [4, 5] [] [] (by simp [hF]) (by simp [covers, mpre]) ?_
    simp [hF, retK]
  repeat first
    | refine VS.seq ?_
    | (refine VS.keepAt 10 [0, 3, 7] ?_; generalize hK : VS _ _ _ = KK; (try simp); (try subst hK); refine VS.region tabOk (id := 10) [] (by kernel_rfl) ?_; generalize hK : VS _ _ _ = KK; simp (maxSteps := 1000000) [hF]; (try subst hK); try (refine VS.keep [0, 3, 7, 44] ?_; generalize hK : VS _ _ _ = KK; simp; (try subst hK)))
    | (refine VS.cond ?_; generalize hK1 : VS _ _ _ = KK1; generalize hK2 : VS _ _ _ = KK2; simp (maxSteps := 1000000) [hF]; (try subst hK1); (try subst hK2))
  refine ⟨fun h4 => ?_, fun h4 => ?_⟩
  · repeat first
      | refine VS.seq ?_
      | (refine VS.keepAt 11 [0, 3] ?_; generalize hK : VS _ _ _ = KK; (try simp); (try subst hK); refine VS.region tabOk (id := 11) [] (by kernel_rfl) ?_; generalize hK : VS _ _ _ = KK; simp (maxSteps := 1000000) [hF]; (try subst hK); try (refine VS.keep [4, 5] ?_; generalize hK : VS _ _ _ = KK; simp; (try subst hK)))
    refine (freeze_nil d.obj).call [] (by simp) (by simp (maxSteps := 1000000) [hF]) (by simp (maxSteps := 1000000) [hF]) (by simp (maxSteps := 1000000) [hF]) ?_
    rintro av X κ ⟨rfl, rfl, rfl⟩
    generalize hK : VS _ _ _ = KK; simp (maxSteps := 1000000) [hF]; (try subst hK)
    try refine VS.ret ?_
    repeat first | refine blockN_ret ?_ | refine loopN_ret ?_
    refine endK.of [4, 5] [] [] (by simp [hF]) (by simp [covers, mpre]) ?_
    simp [hF, retK]
  repeat first
    | refine VS.seq ?_
    | (refine VS.keepAt 12 [0, 3, 7] ?_; generalize hK : VS _ _ _ = KK; (try simp); (try subst hK); refine VS.region tabOk (id := 12) [] (by kernel_rfl) ?_; generalize hK : VS _ _ _ = KK; simp (maxSteps := 1000000) [hF]; (try subst hK); try (refine VS.keep [0, 3, 50] ?_; generalize hK : VS _ _ _ = KK; simp; (try subst hK)))
    | (refine VS.cond ?_; generalize hK1 : VS _ _ _ = KK1; generalize hK2 : VS _ _ _ = KK2; simp (maxSteps := 1000000) [hF]; (try subst hK1); (try subst hK2))
  refine ⟨fun h5 => ?_, fun h5 => ?_⟩
  · repeat first
      | refine VS.seq ?_
      | (refine VS.keepAt 13 [0, 3] ?_; generalize hK : VS _ _ _ = KK; (try simp); (try subst hK); refine VS.region tabOk (id := 13) [] (by kernel_rfl) ?_; generalize hK : VS _ _ _ = KK; simp (maxSteps := 1000000) [hF]; (try subst hK); try (refine VS.keep [4, 5] ?_; generalize hK : VS _ _ _ = KK; simp; (try subst hK)))
    refine (clone_nil d.obj).call [] (by simp) (by simp (maxSteps := 1000000) [hF]) (by simp (maxSteps := 1000000) [hF]) (by simp (maxSteps := 1000000) [hF]) ?_
    rintro av X κ ⟨rfl, rfl, rfl⟩
    generalize hK : VS _ _ _ = KK; simp (maxSteps := 1000000) [hF]; (try subst hK)
    try refine VS.ret ?_
    repeat first | refine blockN_ret ?_ | refine loopN_ret ?_
    refine endK.of [4, 5] [] [] (by simp [hF]) (by simp [covers, mpre]) ?_
    simp [hF, retK]
  omega

def spN : Sp := ⟨[], []⟩
theorem spN_wf : WF spN 0 := ⟨⟨by simp [spN], fun h => by simp [spN] at h, fun k hk => by simp [spN] at hk, fun k hk => by simp [spN] at hk⟩, by simp [spN], fun o ho => by simp [spN] at ho⟩
theorem doOf_spN (d : Deed) (h : 0 ≤ d.op ∧ d.op < 6) : doOf spN d = (spN, 0, 1) := by
  have hb : ∀ o, hasB spN o = false := fun o => by simp [hasB, spN]
  have hr : realB spN = false := by simp [realB, spN]
  have : d.op = 0 ∨ d.op = 1 ∨ d.op = 2 ∨ d.op = 3 ∨ d.op = 4 ∨ d.op = 5 := by omega
  rcases this with h | h | h | h | h | h <;> simp [doOf, h, makeOf, setOf, getOf, deleteOf, freezeOf, cloneOf, askOf, hb, hr]

/- cabochon/cabochonlaw20.ShapeNothing -/
theorem nothing_ok (d : Deed) : Meets Try.prog 9 [] (.cons (avDeed d) .nil) fun av X κ => av = .val (.bool true) := by
  unfold avDeed
  refine Meets.of_vs tabOk Try.func9 (body := ?_) ?_ (by kernel_rfl) Try.ntmps9 (rs := [.tmp 2]) (by kernel_rfl) rfl (by simp [AV.len]) (by simp only [envOf]; exact rfl) ?_
  rotate_left
  · rfl
  intro w0 I0 F0 hF
  repeat first
    | refine VS.seq ?_
    | refine VS.block ?_
    | (refine VS.keepAt 0 [0] ?_; generalize hK : VS _ _ _ = KK; (try simp); (try subst hK); refine VS.region tabOk (id := 0) [] (by kernel_rfl) ?_; generalize hK : VS _ _ _ = KK; simp (maxSteps := 1000000) [hF]; (try subst hK); try (refine VS.keep [1] ?_; generalize hK : VS _ _ _ = KK; simp; (try subst hK)))
    | (refine VS.keepAt 1 [1] ?_; generalize hK : VS _ _ _ = KK; (try simp); (try subst hK); refine VS.region tabOk (id := 1) [] (by kernel_rfl) ?_; generalize hK : VS _ _ _ = KK; simp (maxSteps := 1000000) [hF]; (try subst hK); try (refine VS.keep [1, 3] ?_; generalize hK : VS _ _ _ = KK; simp; (try subst hK)))
    | (refine VS.keepAt 2 [1, 3] ?_; generalize hK : VS _ _ _ = KK; (try simp); (try subst hK); refine VS.region tabOk (id := 2) [] (by kernel_rfl) ?_; generalize hK : VS _ _ _ = KK; simp (maxSteps := 1000000) [hF]; (try subst hK); try (refine VS.keep [1, 4] ?_; generalize hK : VS _ _ _ = KK; simp; (try subst hK)))
    | (refine VS.keepAt 3 [1, 4] ?_; generalize hK : VS _ _ _ = KK; (try simp); (try subst hK); refine VS.region tabOk (id := 3) [] (by kernel_rfl) ?_; generalize hK : VS _ _ _ = KK; simp (maxSteps := 1000000) [hF]; (try subst hK); try (refine VS.keep [1, 4, 5] ?_; generalize hK : VS _ _ _ = KK; simp; (try subst hK)))
  refine VS.rounds (fun n st => ∃ (i : Nat), i + n = 2 ∧ st = ⟨[(1, .ptr 0 [.d]), (4, .sub 2 [] 0 2 true), (5, .val (.int .i64 (i : Int)))],
    [.box true () (dDeed d), .junk (), .sl true () 1 (.cons (.val (.pointer none)) (.cons (dSp spN) .nil))], [], []⟩) ⟨2, 0, rfl, rfl⟩ ?_
  rintro n st ⟨i, hi, rfl⟩
  obtain ⟨q, hq, h1, h2⟩ : ∃ q, IntKind.i64.wrap ((IntKind.u64.wrap d.op).tmod 6) = q ∧ 0 ≤ q ∧ q < 6 := ⟨_, IntWalk.i64_in _ (by have := partOf_nonneg d.op (n := 6); have := partOf_lt d.op (n := 6) (by omega); simp only [partOf] at *; omega), partOf_nonneg d.op, partOf_lt d.op (by omega)⟩
  have hN : dSp spN = .box true () (.agg (.cons (.sl true () 2 (dShs [])) (.cons (.sl true () 4 (dObs [])) .nil))) := rfl
  have hi3 : i = 0 ∨ i = 1 ∨ i = 2 := by omega
  rcases hi3 with rfl | rfl | rfl
  · repeat first
      | refine VS.seq ?_
      | refine VS.skip ?_
      | refine VS.block ?_
      | (refine VS.keepAt 4 [1, 4, 5] ?_; generalize hK : VS _ _ _ = KK; (try simp); (try subst hK); refine VS.region tabOk (id := 4) [] (by kernel_rfl) ?_; generalize hK : VS _ _ _ = KK; simp (maxSteps := 1000000) [hF, dDeed, hq]; (try subst hK); try (refine VS.keep [1, 4, 5, 17] ?_; generalize hK : VS _ _ _ = KK; simp; (try subst hK)))
      | (refine VS.keepAt 6 [1, 4, 5] ?_; generalize hK : VS _ _ _ = KK; (try simp); (try subst hK); refine VS.drawn tabOk mixedOk (id := 6) [] [⟨0, 16, 2097152, 5⟩, ⟨0, 32, 4194304, 5⟩, ⟨3, 6291456, 8388608, 5⟩, ⟨4, 8388608, 16777216, 6⟩, ⟨0, 2, 33554432, 5⟩, ⟨16, 33554432, 67108864, 6⟩, ⟨32, 67108864, 134217728, 5⟩, ⟨64, 134217728, 268435456, 5⟩, ⟨128, 268435456, 536870912, 5⟩, ⟨0, 2, 1073741824, 5⟩, ⟨512, 1073741824, 2147483648, 6⟩, ⟨0, 2, 4294967296, 5⟩, ⟨2048, 4294967296, 8589934592, 6⟩, ⟨0, 2, 17179869184, 5⟩, ⟨8192, 17179869184, 34359738368, 6⟩, ⟨21760, 45634027520, 68719476736, 5⟩, ⟨32776, 68736253952, 137438953472, 0⟩, ⟨65536, 137438953472, 1048576, 5⟩, ⟨131072, 1048576, 274877906944, 5⟩, ⟨131072, 1048576, 549755813888, 5⟩, ⟨524287, 274877906944, 64, 5⟩, ⟨2097151, 549755813888, 128, 5⟩] (.take 0 (.take 1 (.take 2 (.take 3 (.take 4 (.take 5 (.take 6 (.take 7 (.take 8 (.take 9 (.take 10 (.take 11 (.take 12 (.take 13 (.take 14 (.take 15 (.fork (.alt 16 (.take 17 (.take 18 (.take 19 (.take 20 (.take 21 (.done)))))) (.nil))))))))))))))))))) (.run [0, 1, 2, 3, 4, 5, 6, 7, 8, 9, 10, 11, 12, 13, 14, 15, 16, 17, 18, 19, 20, 21] (.done)) (by kernel_rfl) (by kernel_rfl) (by kernel_rfl) ?_; generalize hK : VS _ _ _ = KK; simp only [opsVc_run, opsVc_both, opsVc_chk, opsVc_done, opsVc_yes, pick_cons, pick_nil, List.getElem?_cons_zero, List.getElem?_cons_succ]; simp (maxSteps := 1000000) [hF, dDeed, hq]; (try subst hK); try (refine VS.keep [1, 4, 5, 6, 7] ?_; generalize hK : VS _ _ _ = KK; simp; (try subst hK)))
      | (refine VS.cond ?_; generalize hK1 : VS _ _ _ = KK1; generalize hK2 : VS _ _ _ = KK2; simp (maxSteps := 1000000) [hF, dDeed, hq]; (try subst hK1); (try subst hK2))
    refine (do_nil ⟨q, d.obj, d.name, d.word⟩ ⟨h1, h2⟩).call [] (by simp) (by simp (maxSteps := 1000000) [hF, dDeed, avDeed]) (by simp (maxSteps := 1000000) [hF, dDeed, avDeed]) (by simp (maxSteps := 1000000) [hF, dDeed, avDeed]) ?_
    rintro av X κ ⟨rfl, rfl, rfl⟩
    generalize hK : VS _ _ _ = KK; simp (maxSteps := 1000000) [hF, dDeed, avDeed]; (try subst hK)
    repeat first
      | refine VS.seq ?_
      | (refine VS.keepAt 7 [1, 4, 5, 6, 7] ?_; generalize hK : VS _ _ _ = KK; (try simp); (try subst hK); refine VS.drawn tabOk mixedOk (id := 7) [] [⟨0, 16, 2199023255552, 5⟩, ⟨0, 32, 4398046511104, 5⟩, ⟨3, 6597069766656, 8796093022208, 5⟩, ⟨4, 8796093022208, 17592186044416, 6⟩, ⟨0, 2, 35184372088832, 5⟩, ⟨16, 35184372088832, 70368744177664, 6⟩, ⟨40, 87960930222080, 140737488355328, 0⟩, ⟨64, 140737488355328, 1099511627776, 5⟩, ⟨128, 1099511627776, 281474976710656, 5⟩, ⟨128, 1099511627776, 562949953421312, 5⟩, ⟨511, 281474976710656, 256, 5⟩, ⟨2047, 562949953421312, 512, 5⟩] (.take 0 (.take 1 (.take 2 (.take 3 (.take 4 (.take 5 (.fork (.alt 6 (.take 7 (.take 8 (.take 9 (.take 10 (.take 11 (.done)))))) (.nil))))))))) (.run [0, 1, 2, 3, 4, 5, 6, 7, 8, 9, 10, 11] (.done)) (by kernel_rfl) (by kernel_rfl) (by kernel_rfl) ?_; generalize hK : VS _ _ _ = KK; simp only [opsVc_run, opsVc_both, opsVc_chk, opsVc_done, opsVc_yes, pick_cons, pick_nil, List.getElem?_cons_zero, List.getElem?_cons_succ]; simp (maxSteps := 1000000) [hF]; (try subst hK); try (refine VS.keep [1, 4, 5, 6, 7, 8, 9] ?_; generalize hK : VS _ _ _ = KK; simp; (try subst hK)))
    refine (names_nil d.obj).call [] (by simp) (by simp (maxSteps := 1000000) [hF, dDeed]) (by simp (maxSteps := 1000000) [hF, dDeed]) (by simp (maxSteps := 1000000) [hF, dDeed]) ?_
    rintro av X κ ⟨rfl, rfl, rfl⟩
    generalize hK : VS _ _ _ = KK; simp (maxSteps := 1000000) [hF, dDeed]; (try subst hK)
    repeat first
      | refine VS.seq ?_
      | (refine VS.keepAt 8 [1, 4, 5, 6, 7, 8, 9] ?_; generalize hK : VS _ _ _ = KK; (try simp); (try subst hK); refine VS.drawn tabOk mixedOk (id := 8) [] [⟨0, 16, 2251799813685248, 5⟩, ⟨0, 32, 4503599627370496, 5⟩, ⟨3, 6755399441055744, 9007199254740992, 5⟩, ⟨4, 9007199254740992, 18014398509481984, 6⟩, ⟨0, 2, 36028797018963968, 5⟩, ⟨16, 36028797018963968, 72057594037927936, 6⟩, ⟨0, 2, 144115188075855872, 5⟩, ⟨64, 144115188075855872, 288230376151711744, 6⟩, ⟨168, 378302368699121664, 576460752303423488, 0⟩, ⟨256, 576460752303423488, 1125899906842624, 5⟩, ⟨512, 1125899906842624, 1152921504606846976, 5⟩, ⟨512, 1125899906842624, 2305843009213693952, 5⟩, ⟨2047, 1152921504606846976, 1024, 5⟩, ⟨8191, 2305843009213693952, 2048, 5⟩] (.take 0 (.take 1 (.take 2 (.take 3 (.take 4 (.take 5 (.take 6 (.take 7 (.fork (.alt 8 (.take 9 (.take 10 (.take 11 (.take 12 (.take 13 (.done)))))) (.nil))))))))))) (.run [0, 1, 2, 3, 4, 5, 6, 7, 8, 9, 10, 11, 12, 13] (.done)) (by kernel_rfl) (by kernel_rfl) (by kernel_rfl) ?_; generalize hK : VS _ _ _ = KK; simp only [opsVc_run, opsVc_both, opsVc_chk, opsVc_done, opsVc_yes, pick_cons, pick_nil, List.getElem?_cons_zero, List.getElem?_cons_succ]; simp (maxSteps := 1000000) [hF]; (try subst hK); try (refine VS.keep [1, 4, 5, 6, 7, 8, 9, 11] ?_; generalize hK : VS _ _ _ = KK; simp; (try subst hK)))
    refine (slot_nil d.obj d.name).call [] (by simp) (by simp (maxSteps := 1000000) [hF, dDeed]) (by simp (maxSteps := 1000000) [hF, dDeed]) (by simp (maxSteps := 1000000) [hF, dDeed]) ?_
    rintro av X κ ⟨rfl, rfl, rfl⟩
    generalize hK : VS _ _ _ = KK; simp (maxSteps := 1000000) [hF, dDeed]; (try subst hK)
    repeat first
      | refine VS.seq ?_
      | (refine VS.keepAt 9 [1, 4, 5, 6, 7, 8, 9, 11] ?_; generalize hK : VS _ _ _ = KK; (try simp); (try subst hK); refine VS.region tabOk (id := 9) [(2, 64), (6, 68), (10, 72), (15, 77), (19, 81), (27, 89)] (by kernel_rfl) ?_; generalize hK : VS _ _ _ = KK; simp (maxSteps := 1000000) [hF]; (try subst hK); try (refine VS.keep [1, 4, 5, 96] ?_; generalize hK : VS _ _ _ = KK; simp; (try subst hK)))
    refine (shapes_nil).call [] (by simp) (by simp (maxSteps := 1000000) [hF, dDeed]) (by simp (maxSteps := 1000000) [hF, dDeed]) (by simp (maxSteps := 1000000) [hF, dDeed]) ?_
    rintro av X κ ⟨rfl, rfl, rfl⟩
    generalize hK : VS _ _ _ = KK; simp (maxSteps := 1000000) [hF, dDeed]; (try subst hK)
    refine (copy_nil).call [] (by simp) (by simp (maxSteps := 1000000) [hF, dDeed]) (by simp (maxSteps := 1000000) [hF, dDeed]) (by simp (maxSteps := 1000000) [hF, dDeed]) ?_
    rintro av X κ ⟨rfl, rfl, rfl⟩
    generalize hK : VS _ _ _ = KK; simp (maxSteps := 1000000) [hF, dDeed]; (try subst hK)
    repeat first
      | refine VS.skip ?_
      | refine VS.nil ?_
      | refine blockN_normal ?_
      | refine loopN_normal ?_
      | (refine VS.keepAt 5 [1, 4, 5] ?_; generalize hK : VS _ _ _ = KK; (try simp); (try subst hK); refine VS.region tabOk (id := 5) [] (by kernel_rfl) ?_; generalize hK : VS _ _ _ = KK; simp (maxSteps := 1000000) [hF]; (try subst hK); try (refine VS.keep [1, 4, 5] ?_; generalize hK : VS _ _ _ = KK; simp; (try subst hK)))
      | (refine VS.cond ?_; generalize hK1 : VS _ _ _ = KK1; generalize hK2 : VS _ _ _ = KK2; simp (maxSteps := 1000000) [hF]; (try subst hK1); (try subst hK2))
    refine nextK.of [1, 4, 5] [0, 1, 2] (1) (by omega) (by simp [hF]) ?_
    exact ⟨1, rfl, rfl⟩
  · have hdo := doOf_spN ⟨q, d.obj, d.name, d.word⟩ ⟨h1, h2⟩
    repeat first
      | refine VS.seq ?_
      | refine VS.skip ?_
      | refine VS.block ?_
      | (refine VS.keepAt 4 [1, 4, 5] ?_; generalize hK : VS _ _ _ = KK; (try simp); (try subst hK); refine VS.region tabOk (id := 4) [] (by kernel_rfl) ?_; generalize hK : VS _ _ _ = KK; simp (maxSteps := 1000000) [hF, dDeed, hq, hN]; (try subst hK); try (refine VS.keep [1, 4, 5, 17] ?_; generalize hK : VS _ _ _ = KK; simp; (try subst hK)))
      | (refine VS.keepAt 6 [1, 4, 5] ?_; generalize hK : VS _ _ _ = KK; (try simp); (try subst hK); refine VS.drawn tabOk mixedOk (id := 6) [] [⟨0, 16, 2097152, 5⟩, ⟨0, 32, 4194304, 5⟩, ⟨3, 6291456, 8388608, 5⟩, ⟨4, 8388608, 16777216, 6⟩, ⟨0, 2, 33554432, 5⟩, ⟨16, 33554432, 67108864, 6⟩, ⟨32, 67108864, 134217728, 5⟩, ⟨64, 134217728, 268435456, 5⟩, ⟨128, 268435456, 536870912, 5⟩, ⟨0, 2, 1073741824, 5⟩, ⟨512, 1073741824, 2147483648, 6⟩, ⟨0, 2, 4294967296, 5⟩, ⟨2048, 4294967296, 8589934592, 6⟩, ⟨0, 2, 17179869184, 5⟩, ⟨8192, 17179869184, 34359738368, 6⟩, ⟨21760, 45634027520, 68719476736, 5⟩, ⟨32776, 68736253952, 137438953472, 0⟩, ⟨65536, 137438953472, 1048576, 5⟩, ⟨131072, 1048576, 274877906944, 5⟩, ⟨131072, 1048576, 549755813888, 5⟩, ⟨524287, 274877906944, 64, 5⟩, ⟨2097151, 549755813888, 128, 5⟩] (.take 0 (.take 1 (.take 2 (.take 3 (.take 4 (.take 5 (.take 6 (.take 7 (.take 8 (.take 9 (.take 10 (.take 11 (.take 12 (.take 13 (.take 14 (.take 15 (.fork (.alt 16 (.take 17 (.take 18 (.take 19 (.take 20 (.take 21 (.done)))))) (.nil))))))))))))))))))) (.run [0, 1, 2, 3, 4, 5, 6, 7, 8, 9, 10, 11, 12, 13, 14, 15, 16, 17, 18, 19, 20, 21] (.done)) (by kernel_rfl) (by kernel_rfl) (by kernel_rfl) ?_; generalize hK : VS _ _ _ = KK; simp only [opsVc_run, opsVc_both, opsVc_chk, opsVc_done, opsVc_yes, pick_cons, pick_nil, List.getElem?_cons_zero, List.getElem?_cons_succ]; simp (maxSteps := 1000000) [hF, dDeed, hq, hN]; (try subst hK); try (refine VS.keep [1, 4, 5, 6, 7] ?_; generalize hK : VS _ _ _ = KK; simp; (try subst hK)))
      | (refine VS.cond ?_; generalize hK1 : VS _ _ _ = KK1; generalize hK2 : VS _ _ _ = KK2; simp (maxSteps := 1000000) [hF, dDeed, hq, hN]; (try subst hK1); (try subst hK2))
    refine (do_ok spN spN_wf (by omega) ⟨q, d.obj, d.name, d.word⟩).call [(2, [.i 1])] (by simp) (by simp (maxSteps := 1000000) [hF, dDeed, avDeed, hN, hdo]) (by simp (maxSteps := 1000000) [hF, dDeed, avDeed, hN, hdo]) (by simp (maxSteps := 1000000) [hF, dDeed, avDeed, hN, hdo]) ?_
    rintro av X κ ⟨rfl, rfl, rfl⟩
    generalize hK : VS _ _ _ = KK; simp (maxSteps := 1000000) [hF, dDeed, avDeed, hN, hdo]; (try subst hK)
    repeat first
      | refine VS.seq ?_
      | (refine VS.keepAt 7 [1, 4, 5, 6, 7] ?_; generalize hK : VS _ _ _ = KK; (try simp); (try subst hK); refine VS.drawn tabOk mixedOk (id := 7) [] [⟨0, 16, 2199023255552, 5⟩, ⟨0, 32, 4398046511104, 5⟩, ⟨3, 6597069766656, 8796093022208, 5⟩, ⟨4, 8796093022208, 17592186044416, 6⟩, ⟨0, 2, 35184372088832, 5⟩, ⟨16, 35184372088832, 70368744177664, 6⟩, ⟨40, 87960930222080, 140737488355328, 0⟩, ⟨64, 140737488355328, 1099511627776, 5⟩, ⟨128, 1099511627776, 281474976710656, 5⟩, ⟨128, 1099511627776, 562949953421312, 5⟩, ⟨511, 281474976710656, 256, 5⟩, ⟨2047, 562949953421312, 512, 5⟩] (.take 0 (.take 1 (.take 2 (.take 3 (.take 4 (.take 5 (.fork (.alt 6 (.take 7 (.take 8 (.take 9 (.take 10 (.take 11 (.done)))))) (.nil))))))))) (.run [0, 1, 2, 3, 4, 5, 6, 7, 8, 9, 10, 11] (.done)) (by kernel_rfl) (by kernel_rfl) (by kernel_rfl) ?_; generalize hK : VS _ _ _ = KK; simp only [opsVc_run, opsVc_both, opsVc_chk, opsVc_done, opsVc_yes, pick_cons, pick_nil, List.getElem?_cons_zero, List.getElem?_cons_succ]; simp (maxSteps := 1000000) [hF, hN]; (try subst hK); try (refine VS.keep [1, 4, 5, 6, 7, 8, 9] ?_; generalize hK : VS _ _ _ = KK; simp; (try subst hK)))
    refine (names1_no spN spN_wf (by omega) d.obj rfl).call [(2, [.i 1])] (by simp) (by simp (maxSteps := 1000000) [hF, dDeed, hN]) (by simp (maxSteps := 1000000) [hF, dDeed, hN]) (by simp (maxSteps := 1000000) [hF, dDeed, hN]) ?_
    rintro av X κ ⟨rfl, rfl, rfl⟩
    generalize hK : VS _ _ _ = KK; simp (maxSteps := 1000000) [hF, dDeed, hN]; (try subst hK)
    repeat first
      | refine VS.seq ?_
      | (refine VS.keepAt 8 [1, 4, 5, 6, 7, 8, 9] ?_; generalize hK : VS _ _ _ = KK; (try simp); (try subst hK); refine VS.drawn tabOk mixedOk (id := 8) [] [⟨0, 16, 2251799813685248, 5⟩, ⟨0, 32, 4503599627370496, 5⟩, ⟨3, 6755399441055744, 9007199254740992, 5⟩, ⟨4, 9007199254740992, 18014398509481984, 6⟩, ⟨0, 2, 36028797018963968, 5⟩, ⟨16, 36028797018963968, 72057594037927936, 6⟩, ⟨0, 2, 144115188075855872, 5⟩, ⟨64, 144115188075855872, 288230376151711744, 6⟩, ⟨168, 378302368699121664, 576460752303423488, 0⟩, ⟨256, 576460752303423488, 1125899906842624, 5⟩, ⟨512, 1125899906842624, 1152921504606846976, 5⟩, ⟨512, 1125899906842624, 2305843009213693952, 5⟩, ⟨2047, 1152921504606846976, 1024, 5⟩, ⟨8191, 2305843009213693952, 2048, 5⟩] (.take 0 (.take 1 (.take 2 (.take 3 (.take 4 (.take 5 (.take 6 (.take 7 (.fork (.alt 8 (.take 9 (.take 10 (.take 11 (.take 12 (.take 13 (.done)))))) (.nil))))))))))) (.run [0, 1, 2, 3, 4, 5, 6, 7, 8, 9, 10, 11, 12, 13] (.done)) (by kernel_rfl) (by kernel_rfl) (by kernel_rfl) ?_; generalize hK : VS _ _ _ = KK; simp only [opsVc_run, opsVc_both, opsVc_chk, opsVc_done, opsVc_yes, pick_cons, pick_nil, List.getElem?_cons_zero, List.getElem?_cons_succ]; simp (maxSteps := 1000000) [hF, hN]; (try subst hK); try (refine VS.keep [1, 4, 5, 6, 7, 8, 9, 11] ?_; generalize hK : VS _ _ _ = KK; simp; (try subst hK)))
    have hsh : shapesOf spN = 0 := rfl
    have hsl : slotOf spN d.obj d.name = (0, 1) := rfl
    refine (slot_ok spN spN_wf.sh d.obj d.name).call [(2, [.i 1])] (by simp) (by simp (maxSteps := 1000000) [hF, dDeed, hN, hsl]) (by simp (maxSteps := 1000000) [hF, dDeed, hN, hsl]) (by simp (maxSteps := 1000000) [hF, dDeed, hN, hsl]) ?_
    rintro av X κ ⟨rfl, rfl, rfl⟩
    generalize hK : VS _ _ _ = KK; simp (maxSteps := 1000000) [hF, dDeed, hN, hsl]; (try subst hK)
    repeat first
      | refine VS.seq ?_
      | (refine VS.keepAt 9 [1, 4, 5, 6, 7, 8, 9, 11] ?_; generalize hK : VS _ _ _ = KK; (try simp); (try subst hK); refine VS.region tabOk (id := 9) [(2, 64), (6, 68), (10, 72), (15, 77), (19, 81), (27, 89)] (by kernel_rfl) ?_; generalize hK : VS _ _ _ = KK; simp (maxSteps := 1000000) [hF, hN]; (try subst hK); try (refine VS.keep [1, 4, 5, 96] ?_; generalize hK : VS _ _ _ = KK; simp; (try subst hK)))
    refine (shapes_ok spN).call [(2, [.i 1])] (by simp) (by simp (maxSteps := 1000000) [hF, dDeed, hN, hsh]) (by simp (maxSteps := 1000000) [hF, dDeed, hN, hsh]) (by simp (maxSteps := 1000000) [hF, dDeed, hN, hsh]) ?_
    rintro av X κ ⟨rfl, rfl, rfl⟩
    generalize hK : VS _ _ _ = KK; simp (maxSteps := 1000000) [hF, dDeed, hN, hsh]; (try subst hK)
    refine (copy_unmade spN rfl).call [(2, [.i 1])] (by simp) (by simp (maxSteps := 1000000) [hF, dDeed, hN]) (by simp (maxSteps := 1000000) [hF, dDeed, hN]) (by simp (maxSteps := 1000000) [hF, dDeed, hN]) ?_
    rintro av X κ ⟨rfl, rfl, rfl⟩
    generalize hK : VS _ _ _ = KK; simp (maxSteps := 1000000) [hF, dDeed, hN]; (try subst hK)
    repeat first
      | refine VS.skip ?_
      | refine VS.nil ?_
      | refine blockN_normal ?_
      | refine loopN_normal ?_
      | (refine VS.keepAt 5 [1, 4, 5] ?_; generalize hK : VS _ _ _ = KK; (try simp); (try subst hK); refine VS.region tabOk (id := 5) [] (by kernel_rfl) ?_; generalize hK : VS _ _ _ = KK; simp (maxSteps := 1000000) [hF]; (try subst hK); try (refine VS.keep [1, 4, 5] ?_; generalize hK : VS _ _ _ = KK; simp; (try subst hK)))
      | (refine VS.cond ?_; generalize hK1 : VS _ _ _ = KK1; generalize hK2 : VS _ _ _ = KK2; simp (maxSteps := 1000000) [hF]; (try subst hK1); (try subst hK2))
    refine nextK.of [1, 4, 5] [0, 1, 2] (0) (by omega) (by simp [hF]) ?_
    exact ⟨2, rfl, rfl⟩
  · repeat first
      | refine VS.seq ?_
      | refine VS.exit ?_
      | (refine VS.keepAt 4 [1, 4, 5] ?_; generalize hK : VS _ _ _ = KK; (try simp); (try subst hK); refine VS.region tabOk (id := 4) [] (by kernel_rfl) ?_; generalize hK : VS _ _ _ = KK; simp (maxSteps := 1000000) [hF]; (try subst hK); try (refine VS.keep [1, 4, 5, 17] ?_; generalize hK : VS _ _ _ = KK; simp; (try subst hK)))
      | (refine VS.keepAt 11 [] ?_; generalize hK : VS _ _ _ = KK; (try simp); (try subst hK); refine VS.region tabOk (id := 11) [] (by kernel_rfl) ?_; generalize hK : VS _ _ _ = KK; simp (maxSteps := 1000000) [hF]; (try subst hK); try (refine VS.keep [2] ?_; generalize hK : VS _ _ _ = KK; simp; (try subst hK)))
      | (refine VS.cond ?_; generalize hK1 : VS _ _ _ = KK1; generalize hK2 : VS _ _ _ = KK2; simp (maxSteps := 1000000) [hF]; (try subst hK1); (try subst hK2))
    refine (sane_ok).call [] (by simp) (by simp (maxSteps := 1000000) [hF, dDeed]) (by simp (maxSteps := 1000000) [hF, dDeed]) (by simp (maxSteps := 1000000) [hF, dDeed]) ?_
    rintro av X κ ⟨rfl, rfl, rfl⟩
    generalize hK : VS _ _ _ = KK; simp (maxSteps := 1000000) [hF, dDeed]; (try subst hK)
    try refine VS.ret ?_
    repeat first | refine blockN_ret ?_ | refine loopN_ret ?_
    refine endK.of [2] [] [] (by simp [hF]) (by simp [covers, mpre]) ?_
    simp [hF, retK]
end Go.Proofs.Ythcndkpkkaphoaa

/- From what a row's argument reads as to trees that cannot change. -/
namespace Go.Vc
set_option linter.all false
open T (hdr blk)

/-- The blocks that are there. -/
abbrev allB (w : World) : Nat → Prop := fun b => b < w.heap.size

/-- What a reading of a type shows: a tree that cannot change, of 'z' cells, with such a content. -/
def Reads (P : Program) (t : TypeId) (z : Nat) (good : D → Prop) : Prop :=
  ∀ (H : Type) (enc : TypeId × Value → H) (w : World) (fuel : Nat) (cs : List Value) (x : DataW H × List MemPlace), DataW.trod enc P w 0 (fun _ => true) true fuel t cs = some x →
    ∃ g : G, T.Holds w.heap (allB w) g ∧ g.free = true ∧ g.cells = cs ∧ g.width = z ∧ good g.erase

theorem reads_int {P : Program} {t : TypeId} {k : IntKind} (ht : P.underlying t = some (.int k)) : Reads P t 1 fun d => ∃ n, d = .val (.int k n) := fun H enc w fuel cs x h => by
  obtain ⟨n, rfl, _, _⟩ := DataW.trod_int ht h
  exact ⟨.val (.int k n), rfl, rfl, rfl, rfl, n, rfl⟩
theorem reads_str {P : Program} {t : TypeId} (ht : P.underlying t = some .string) : Reads P t 1 fun d => ∃ s, d = .val (.string s) := fun H enc w fuel cs x h => by
  obtain ⟨s, rfl, _, _⟩ := DataW.trod_string ht h
  exact ⟨.val (.string s), rfl, rfl, rfl, rfl, s, rfl⟩
theorem reads_bool {P : Program} {t : TypeId} (ht : P.underlying t = some .bool) : Reads P t 1 fun d => ∃ b, d = .val (.bool b) := fun H enc w fuel cs x h => by
  obtain ⟨b, rfl, _⟩ := DataW.trod_bool ht h
  exact ⟨.val (.bool b), rfl, rfl, rfl, rfl, b, rfl⟩

/-- The fields of a struct, one behind the other. -/
def FieldsRead (P : Program) : List Field → List (Nat × (D → Prop)) → Nat → Prop
  | [], [], _ => True
  | f :: fs, (z, good) :: r, o => Reads P f.type z good ∧ P.cellsOf f.type = z ∧ f.offset = o ∧ FieldsRead P fs r (o + z)
  | _, _, _ => False
def fieldsGood : List (Nat × (D → Prop)) → D → Prop
  | [], d => d = .nil
  | (_, good) :: r, d => ∃ a t, d = .cons a t ∧ good a ∧ fieldsGood r t
def fieldsSize : List (Nat × (D → Prop)) → Nat
  | [] => 0
  | (z, _) :: r => z + fieldsSize r

theorem reads_struct {P : Program} {t : TypeId} {fs : Array Field} (ht : P.underlying t = some (.struct fs)) {gs : List (Nat × (D → Prop))} (hf : FieldsRead P fs.toList gs 0) (hz : P.cellsOf t = fieldsSize gs) :
    Reads P t (fieldsSize gs) fun d => ∃ s, d = .agg s ∧ fieldsGood gs s := fun H enc w fuel cs x h => by
  obtain ⟨xs, n, _, _, hl, hlen, he⟩ := DataW.trod_struct ht h
  have each : ∀ f ∈ fs.toList, ∃ y, DataW.trod enc P w 0 (fun _ => true) true n f.type ((cs.drop f.offset).take (P.cellsOf f.type)) = some y := fun f hm => by
    obtain ⟨i, hi, rfl⟩ := List.getElem_of_mem hm
    have h1 := he i fs[i] (by simp at hi; simp [hi])
    rw [List.getElem?_eq_getElem (by simp at hi; omega)] at h1
    exact ⟨_, h1⟩
  have key : ∀ (l : List Field) (gs : List (Nat × (D → Prop))) (o : Nat), FieldsRead P l gs o → (∀ f ∈ l, f ∈ fs.toList) → cs.length = o + fieldsSize gs →
      ∃ s : G, T.Holds w.heap (allB w) s ∧ s.free = true ∧ s.cells = cs.drop o ∧ s.width = fieldsSize gs ∧ fieldsGood gs s.erase := by
    intro l
    induction l with
    | nil =>
      intro gs o h1 _ h2
      cases gs with
      | nil => exact ⟨.nil, trivial, rfl, by simp only [fieldsSize] at h2; simp [T.cells, h2], rfl, rfl⟩
      | cons _ _ => exact h1.elim
    | cons f l ih =>
      intro gs o h1 hm h2
      cases gs with
      | nil => exact h1.elim
      | cons p r =>
        obtain ⟨z, good⟩ := p
        obtain ⟨k1, k2, k3, k4⟩ := h1
        simp only [fieldsSize] at h2
        obtain ⟨s, s1, s2, s3, s4, s5⟩ := ih r (o + z) k4 (fun f hf => hm f (by simp [hf])) (by omega)
        obtain ⟨y, hy⟩ := each f (hm f (by simp))
        obtain ⟨g, g1, g2, g3, g4, g5⟩ := k1 H enc w n _ y hy
        refine ⟨.cons g s, ⟨g1, s1⟩, by simp [T.free, g2, s2], ?_, by simp [T.width, g4, s4, fieldsSize], _, _, rfl, g5, s5⟩
        simp only [T.cells, g3, s3, k2, k3]
        rw [← List.drop_drop, List.take_append_drop]
  obtain ⟨s, s1, s2, s3, s4, s5⟩ := key fs.toList gs 0 hf (fun _ h => h) (by rw [hl, hz]; omega)
  exact ⟨.agg s, s1, s2, by simpa [T.cells] using s3, s4, _, rfl, s5⟩

theorem erase_agg {g : G} {s : D} (h : g.erase = .agg s) : ∃ s', g = .agg s' ∧ s'.erase = s := by
  cases g <;> simp only [T.erase] at h <;> cases h
  exact ⟨_, rfl, rfl⟩
theorem erase_cons {g : G} {a t : D} (h : g.erase = .cons a t) : ∃ a' t', g = .cons a' t' ∧ a'.erase = a ∧ t'.erase = t := by
  cases g <;> simp only [T.erase] at h <;> cases h
  exact ⟨_, _, rfl, rfl, rfl⟩
theorem erase_val {g : G} {v : Value} (h : g.erase = .val v) : g = .val v := by
  cases g <;> simp only [T.erase] at h <;> cases h
  rfl
theorem erase_nil {g : G} (h : g.erase = .nil) : g = .nil := by
  cases g <;> simp only [T.erase] at h <;> cases h
  rfl

theorem map_of {α β : Type} {f : β → α} : ∀ {l : List α}, (∀ x ∈ l, ∃ y, x = f y) → ∃ ys : List β, l = ys.map f
  | [], _ => ⟨[], rfl⟩
  | x :: l, h => by
    obtain ⟨y, hy⟩ := h x (by simp)
    obtain ⟨ys, hys⟩ := map_of (l := l) (f := f) fun x hx => h x (List.mem_cons_of_mem _ hx)
    exact ⟨y :: ys, by rw [hy, hys]; rfl⟩

theorem cells?_at {w : World} {a : Addr} {n : Nat} {cs : List Value} (h : w.cells? 0 a n = some cs) : cs.length = n ∧ ∀ r v, cs[r]? = some v → w.cell? (a.add r) = some v := by
  obtain ⟨_, h1, h2⟩ := World.cells?_some h
  refine ⟨h1, fun r v hv => ?_⟩
  have hr : r < n := by rw [← h1]; exact (List.getElem?_eq_some_iff.1 hv).1
  have := h2 r hr
  rw [this, hv]

/-- The elements of a slice, one behind the other. -/
theorem reads_elems {P : Program} {e : TypeId} {z : Nat} {good : D → Prop} (he : Reads P e z good) {H : Type} {enc : TypeId × Value → H} {w : World} {n : Nat} {at_ : Nat → List Value} : ∀ (len i0 : Nat),
    (∀ i, i < len → ∃ y, DataW.trod enc P w 0 (fun _ => true) true n e (at_ (i0 + i)) = some y) →
    ∃ s : G, ∃ l : List D, T.Holds w.heap (allB w) s ∧ s.free = true ∧ s.uni z ∧ s.len = len ∧ s.erase = sq l ∧ l.length = len ∧ (∀ d ∈ l, good d) ∧ s.cells = ((List.range len).map fun i => at_ (i0 + i)).flatten
  | 0, i0, _ => ⟨.nil, [], trivial, rfl, trivial, rfl, rfl, rfl, by simp, rfl⟩
  | len + 1, i0, h => by
    obtain ⟨y, hy⟩ := h 0 (by omega)
    obtain ⟨g, g1, g2, g3, g4, g5⟩ := he H enc w n _ y hy
    obtain ⟨s, l, s1, s2, s3, s4, s5, s6, s7, s8⟩ := reads_elems he len (i0 + 1) fun i hi => by
      have := h (i + 1) (by omega)
      rwa [show i0 + (i + 1) = i0 + 1 + i by omega] at this
    refine ⟨.cons g s, g.erase :: l, ⟨g1, s1⟩, by simp [T.free, g2, s2], ⟨g4, s3⟩, by simp [T.len, s4], by simp [T.erase, sq, s5], by simp [s6], fun d hd => ?_, ?_⟩
    · rcases List.mem_cons.1 hd with rfl | hd
      · exact g5
      · exact s7 d hd
    · rw [List.range_succ_eq_map]
      simp only [T.cells, g3, s8, List.map_cons, List.flatten_cons, List.map_map, Nat.add_zero]
      congr 3
      funext i
      simp only [Function.comp]
      congr 1; omega

theorem flat_at {α : Type} {z : Nat} (hz : 0 < z) : ∀ (l : List (List α)) (_ : ∀ c ∈ l, c.length = z) (j : Nat) (v : α), l.flatten[j]? = some v → ∃ c, l[j / z]? = some c ∧ c[j % z]? = some v
  | [], _, j, v, h => by simp at h
  | c :: l, hl, j, v, h => by
    have hc := hl c (by simp)
    simp only [List.flatten_cons] at h
    rcases Nat.lt_or_ge j z with hj | hj
    · rw [List.getElem?_append_left (by omega)] at h
      exact ⟨c, by rw [Nat.div_eq_of_lt hj]; rfl, by rw [Nat.mod_eq_of_lt hj]; exact h⟩
    · rw [List.getElem?_append_right (by omega), hc] at h
      obtain ⟨c', h1, h2⟩ := flat_at hz l (fun c hc => hl c (by simp [hc])) (j - z) v h
      refine ⟨c', ?_, ?_⟩
      · rw [show j / z = (j - z) / z + 1 by rw [Nat.div_eq_sub_div hz hj]]; simpa using h1
      · rw [Nat.mod_eq_sub_mod hj]; exact h2

/-- A slice that is an argument: it cannot change. -/
theorem imm_of_trod {P : Program} {t e : TypeId} {z : Nat} {good : D → Prop} (ht : P.underlying t = some (.slice e)) (he : Reads P e z good) (hc : P.cellsOf e = z) (hz : 0 < z) {H : Type} {enc : TypeId × Value → H} {w : World}
    {r : Reach} {b0 : Nat} {v : Value} {d : DataW H} {ps : List MemPlace} (hv : Value.okWide P w r b0 t v) (h : DataW.Trod enc P w 0 (fun _ => true) true t v d ps) :
    ∃ l : List D, (∀ d ∈ l, good d) ∧ l.length ≤ 2 ^ 63 - 1 ∧ Rl w.heap (allB w) [] (.imm z (sq l) false) true [v] := by
  obtain ⟨fuel, h⟩ := h
  have hok : Cell.ok P w r b0 t v := by
    unfold Value.okWide at hv
    rw [ht] at hv
    simp only [Cell.okWide, ht] at hv
    exact hv
  have hform : v = .slice none 0 0 ∨ ∃ a len cap, v = .slice (some a) len cap ∧ len ≤ cap ∧ (cap : Int) ≤ IntKind.i64.max ∧ a.spot = none := by
    unfold Cell.ok at hok
    rw [ht] at hok
    split at hok <;> try exact hok.elim
    all_goals first
      | (rename_i heq; cases heq; done)
      | skip
    · exact .inl rfl
    · exact .inr ⟨_, _, _, rfl, hok.1, hok.2.1, hok.2.2.2.1⟩
  rcases hform with rfl | ⟨a, len, cap, rfl, hlc, hcm, hspot⟩
  · exact ⟨[], by simp, by simp, _, rfl, .nil, rfl, ⟨trivial, trivial, fun _ => rfl, rfl, rfl, rfl⟩, fun h => by cases h⟩
  · obtain ⟨b, o, sp⟩ := a
    simp only at hspot
    subst hspot
    have hcm' : cap ≤ 2 ^ 63 - 1 := by
      have : IntKind.i64.max = 2 ^ 63 - 1 := by decide
      omega
    rcases cap with _ | cap
    · obtain rfl : len = 0 := by omega
      exact ⟨[], by simp, by simp, _, rfl, .nil, rfl, ⟨trivial, trivial, fun _ => rfl, rfl, rfl, rfl⟩, fun h => by cases h⟩
    · rcases DataW.trod_slice ht h with ⟨h0, _⟩ | ⟨a, len', cap', elems, rest, n, _, h0, _, hb, hl, hm, hlen, hel, hsp, _⟩
      · simp [Value.cells] at h0
      · simp only [Value.cells, List.cons.injEq, Value.slice.injEq, Option.some.injEq, and_true] at h0
        obtain ⟨rfl, rfl, rfl⟩ := h0
        obtain ⟨hsp1, hsp2⟩ := hsp rfl
        have hadd : ∀ k, (⟨b, o, none⟩ : Addr).add k = ⟨b, o + k, none⟩ := fun k => by unfold Addr.add; split <;> simp_all
        rw [hc] at hel hsp2
        -- every element reads
        have each : ∀ i, i < cap + 1 → ∃ cs, w.cells? 0 ((⟨b, o, none⟩ : Addr).add (i * z)) z = some cs ∧ ∃ y, DataW.trod enc P w 0 (fun _ => true) true n e cs = some y := fun i hi => by
          by_cases h1 : i < len
          · have h2 := hel i h1
            rw [List.getElem?_eq_getElem (by omega)] at h2
            obtain ⟨cs, h3, h4⟩ := Option.bind_eq_some_iff.1 h2
            exact ⟨cs, h3, _, h4⟩
          · have h2 := hsp2 (i - len) (by omega)
            rw [List.getElem?_eq_getElem (by omega), show len + (i - len) = i by omega] at h2
            obtain ⟨cs, h3, h4⟩ := Option.bind_eq_some_iff.1 h2
            exact ⟨cs, h3, _, h4⟩
        -- the row
        obtain ⟨csl, hl1, _⟩ := each cap (by omega)
        obtain ⟨hl2, hl3⟩ := cells?_at hl1
        have hl4 := hl3 (z - 1) _ (List.getElem?_eq_getElem (by omega))
        rw [hadd] at hl4
        have hadd2 : ∀ (o' k : Nat), (⟨b, o', none⟩ : Addr).add k = ⟨b, o' + k, none⟩ := fun o' k => by unfold Addr.add; split <;> simp_all
        rw [hadd2] at hl4
        obtain ⟨row, e', fr, hrow⟩ : ∃ row e' fr, w.heap[b]? = some (.cells row e' fr) := by
          unfold World.cell? at hl4
          split at hl4
          · rename_i c _ _ heq; exact ⟨_, _, _, heq⟩
          · cases hl4
        have cell : ∀ k v, w.cell? ⟨b, k, none⟩ = some v → row[k]? = some v := fun k v hk => by
          unfold World.cell? at hk
          simp only [hrow] at hk
          simpa using hk
        have hblt : b < w.heap.size := by
          rcases Nat.lt_or_ge b w.heap.size with h' | h'
          · exact h'
          · rw [Array.getElem?_eq_none h'] at hrow; cases hrow
        have hsz : o + (cap + 1) * z ≤ row.size := by
          have h5 := cell _ _ hl4
          have h6 := (Array.getElem?_eq_some_iff.1 h5).1
          rw [Nat.add_mul]; omega
        obtain ⟨s, l, s1, s2, s3, s4, s5, s6, s7, s8⟩ := reads_elems (enc := enc) (w := w) (n := n) (at_ := fun i => (w.cells? 0 ((⟨b, o, none⟩ : Addr).add (i * z)) z).getD []) he len 0 fun i hi => by
          obtain ⟨cs, h1, h2⟩ := each (0 + i) (by omega)
          rw [h1]; exact h2
        refine ⟨l, s7, by omega, _, rfl, s, s5, ⟨s1, s3, fun _ => s2, rfl, s4.symm, hlc, hcm', fun _ => hblt, row, e', fr, hrow, (fun h => by cases h), hsz, fun j v hj => ?_⟩, fun h => by cases h⟩
        rw [s8] at hj
        obtain ⟨c, c1, c2⟩ := flat_at hz _ (fun c hcm => by
          obtain ⟨i, hi, rfl⟩ := List.mem_map.1 hcm
          obtain ⟨cs, h1, _⟩ := each (0 + i) (by have := List.mem_range.1 hi; omega)
          rw [h1]; exact (cells?_at h1).1) j v hj
        rw [List.getElem?_map] at c1
        cases hr : (List.range len)[j / z]? with
        | none => rw [hr] at c1; cases c1
        | some i =>
          rw [hr] at c1
          obtain ⟨hi1, hi2⟩ := List.getElem?_eq_some_iff.1 hr
          simp only [List.length_range] at hi1
          simp only [List.getElem_range] at hi2
          subst hi2
          obtain ⟨cs, h1, _⟩ := each (0 + j / z) (by omega)
          simp only [Option.map_some, Option.some.injEq, h1, Option.getD_some] at c1
          subst c1
          have h2 := (cells?_at h1).2 _ _ c2
          rw [hadd, hadd2] at h2
          have h3 := cell _ _ h2
          rw [← h3]
          congr 1
          have := Nat.div_add_mod j z
          rw [Nat.mul_comm] at this
          simp only [Nat.zero_add]
          omega
end Go.Vc
