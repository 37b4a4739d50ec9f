/- ShapeFull: there are at most 200 shapes and 100 objects; both spaces tell the same. -/
import Derived.Test.YthcndkpkkaphoaaGd
import Derived.Test.YthcndkpkkaphoaaGe
namespace Go.Proofs.Ythcndkpkkaphoaa
set_option linter.all false
open Go.Vc Go.Proofs
set_option linter.unusedSimpArgs false
set_option maxRecDepth 100000
set_option maxHeartbeats 4000000
attribute [local irreducible] CallW EqK

/- cabochon/cabochonlaw20.ShapeFull -/
theorem full_ok (seed : Int) : Meets Try.prog 3 [] (.cons (avInt seed) .nil) fun av X κ => av = .val (.bool true) := by
  refine Meets.of_vs tabOk Try.func3 (body := ?_) ?_ (by kernel_rfl) Try.ntmps3 (rs := [.tmp 2]) (by kernel_rfl) rfl (by simp [AV.len]) (by simp only [envOf]; exact rfl) ?_
  rotate_left
  · rfl
  intro w0 I0 F0 hF
  repeat first
    | refine VS.seq ?_
    | refine VS.skip ?_
    | refine VS.block ?_
    | refine VS.nil ?_
    | refine blockN_normal ?_
    | refine loopN_normal ?_
    | refine VS.exit ?_
    | refine blockN_hit ?_
    | refine blockN_miss (by decide) ?_
    | refine loopN_exit ?_
    | refine ⟨⟨by omega, by omega⟩, ?_⟩
    | (refine VS.region tabOk (id := 0) [] (by kernel_rfl) ?_; generalize hK : VS _ _ _ = KK; simp [hF]; try subst hK; try (refine VS.keep [0] ?_; generalize hK : VS _ _ _ = KK; simp; try subst hK))
    | (refine VS.region tabOk (id := 1) [] (by kernel_rfl) ?_; generalize hK : VS _ _ _ = KK; simp [hF]; try subst hK; try (refine VS.keep [0, 3, 4] ?_; generalize hK : VS _ _ _ = KK; simp; try subst hK))
    | (refine VS.region tabOk (id := 2) [] (by kernel_rfl) ?_; generalize hK : VS _ _ _ = KK; simp [hF]; try subst hK; try (refine VS.keep [0, 3, 4, 5] ?_; generalize hK : VS _ _ _ = KK; simp; try subst hK))
    | (refine VS.region tabOk (id := 3) [] (by kernel_rfl) ?_; generalize hK : VS _ _ _ = KK; simp [hF]; try subst hK; try (refine VS.keep [3, 4, 5, 6] ?_; generalize hK : VS _ _ _ = KK; simp; try subst hK))
    | (refine VS.region tabOk (id := 4) [] (by kernel_rfl) ?_; generalize hK : VS _ _ _ = KK; simp [hF]; try subst hK; try (refine VS.keep [3, 4, 5, 6, 7] ?_; generalize hK : VS _ _ _ = KK; simp; try subst hK))
    | (refine VS.region tabOk (id := 5) [] (by kernel_rfl) ?_; generalize hK : VS _ _ _ = KK; simp [hF]; try subst hK; try (refine VS.keep [3, 4, 5, 6, 7, 25] ?_; generalize hK : VS _ _ _ = KK; simp; try subst hK))
    | (refine VS.region tabOk (id := 6) [] (by kernel_rfl) ?_; generalize hK : VS _ _ _ = KK; simp [hF]; try subst hK; try (refine VS.keep [3, 4, 5, 6, 7] ?_; generalize hK : VS _ _ _ = KK; simp; try subst hK))
    | (refine VS.region tabOk (id := 7) [] (by kernel_rfl) ?_; generalize hK : VS _ _ _ = KK; simp [hF]; try subst hK; try (refine VS.keep [3, 4, 5, 6, 7, 9] ?_; generalize hK : VS _ _ _ = KK; simp; try subst hK))
    | (refine VS.region tabOk (id := 8) [] (by kernel_rfl) ?_; generalize hK : VS _ _ _ = KK; simp [hF]; try subst hK; try (refine VS.keep [3, 4, 5, 6, 7, 9, 11] ?_; generalize hK : VS _ _ _ = KK; simp; try subst hK))
    | (refine VS.region tabOk (id := 9) [(3, 41)] (by kernel_rfl) ?_; generalize hK : VS _ _ _ = KK; simp [hF]; try subst hK; try (refine VS.keep [3, 4, 5, 6, 7, 47] ?_; generalize hK : VS _ _ _ = KK; simp; try subst hK))
    | (refine VS.region tabOk (id := 10) [] (by kernel_rfl) ?_; generalize hK : VS _ _ _ = KK; simp [hF]; try subst hK; try (refine VS.keep [2] ?_; generalize hK : VS _ _ _ = KK; simp; try subst hK))
    | (refine VS.region tabOk (id := 11) [] (by kernel_rfl) ?_; generalize hK : VS _ _ _ = KK; simp [hF]; try subst hK; try (refine VS.keep [3, 4, 5, 6, 7, 12] ?_; generalize hK : VS _ _ _ = KK; simp; try subst hK))
    | (refine VS.region tabOk (id := 12) [(2, 50)] (by kernel_rfl) ?_; generalize hK : VS _ _ _ = KK; simp [hF]; try subst hK; try (refine VS.keep [3, 4, 5, 6, 7, 12, 53] ?_; generalize hK : VS _ _ _ = KK; simp; try subst hK))
    | (refine VS.region tabOk (id := 13) [] (by kernel_rfl) ?_; generalize hK : VS _ _ _ = KK; simp [hF]; try subst hK; try (refine VS.keep [3, 4, 5, 6, 7, 12] ?_; generalize hK : VS _ _ _ = KK; simp; try subst hK))
    | (refine VS.region tabOk (id := 14) [] (by kernel_rfl) ?_; generalize hK : VS _ _ _ = KK; simp [hF]; try subst hK; try (refine VS.keep [3, 4, 5, 6, 7, 12] ?_; generalize hK : VS _ _ _ = KK; simp; try subst hK))
    | (refine VS.region tabOk (id := 15) [] (by kernel_rfl) ?_; generalize hK : VS _ _ _ = KK; simp [hF]; try subst hK; try (refine VS.keep [3, 4, 5, 6, 7, 12, 13] ?_; generalize hK : VS _ _ _ = KK; simp; try subst hK))
    | (refine VS.region tabOk (id := 16) [] (by kernel_rfl) ?_; generalize hK : VS _ _ _ = KK; simp [hF]; try subst hK; try (refine VS.keep [3, 4, 5, 6, 7, 12, 76] ?_; generalize hK : VS _ _ _ = KK; simp; try subst hK))
    | (refine VS.region tabOk (id := 17) [] (by kernel_rfl) ?_; generalize hK : VS _ _ _ = KK; simp [hF]; try subst hK; try (refine VS.keep [2] ?_; generalize hK : VS _ _ _ = KK; simp; try subst hK))
    | (refine VS.region tabOk (id := 18) [] (by kernel_rfl) ?_; generalize hK : VS _ _ _ = KK; simp [hF]; try subst hK; try (refine VS.keep [3, 4, 14] ?_; generalize hK : VS _ _ _ = KK; simp; try subst hK))
    | (refine VS.region tabOk (id := 19) [] (by kernel_rfl) ?_; generalize hK : VS _ _ _ = KK; simp [hF]; try subst hK; try (refine VS.keep [3, 4, 14, 78] ?_; generalize hK : VS _ _ _ = KK; simp; try subst hK))
    | (refine VS.region tabOk (id := 20) [] (by kernel_rfl) ?_; generalize hK : VS _ _ _ = KK; simp [hF]; try subst hK; try (refine VS.keep [3, 4, 14] ?_; generalize hK : VS _ _ _ = KK; simp; try subst hK))
    | (refine VS.region tabOk (id := 21) [] (by kernel_rfl) ?_; generalize hK : VS _ _ _ = KK; simp [hF]; try subst hK; try (refine VS.keep [3, 4, 14, 15] ?_; generalize hK : VS _ _ _ = KK; simp; try subst hK))
    | (refine VS.region tabOk (id := 22) [] (by kernel_rfl) ?_; generalize hK : VS _ _ _ = KK; simp [hF]; try subst hK; try (refine VS.keep [3, 4, 14, 15, 17] ?_; generalize hK : VS _ _ _ = KK; simp; try subst hK))
    | (refine VS.region tabOk (id := 23) [] (by kernel_rfl) ?_; generalize hK : VS _ _ _ = KK; simp [hF]; try subst hK; try (refine VS.keep [3, 4, 14, 95] ?_; generalize hK : VS _ _ _ = KK; simp; try subst hK))
    | (refine VS.region tabOk (id := 24) [] (by kernel_rfl) ?_; generalize hK : VS _ _ _ = KK; simp [hF]; try subst hK; try (refine VS.keep [2] ?_; generalize hK : VS _ _ _ = KK; simp; try subst hK))
    | (refine VS.region tabOk (id := 25) [(5, 101), (10, 106)] (by kernel_rfl) ?_; generalize hK : VS _ _ _ = KK; simp [hF]; try subst hK; try (refine VS.keep [2] ?_; generalize hK : VS _ _ _ = KK; simp; try subst hK))
    | (refine VS.cond ?_; generalize hK1 : VS _ _ _ = KK1; generalize hK2 : VS _ _ _ = KK2; simp [hF]; try subst hK1; try subst hK2)
  refine (new_ok).call [] (by simp) (by simp [hF]) (by simp [hF]) (by simp [hF]) ?_
  rintro av X κ ⟨rfl, rfl, rfl⟩
  generalize hK : VS _ _ _ = KK; simp [hF]; try subst hK
  repeat first
    | refine VS.seq ?_
    | refine VS.skip ?_
    | refine VS.block ?_
    | refine VS.nil ?_
    | refine blockN_normal ?_
    | refine loopN_normal ?_
    | refine VS.exit ?_
    | refine blockN_hit ?_
    | refine blockN_miss (by decide) ?_
    | refine loopN_exit ?_
    | refine ⟨⟨by omega, by omega⟩, ?_⟩
    | (refine VS.region tabOk (id := 0) [] (by kernel_rfl) ?_; generalize hK : VS _ _ _ = KK; simp [hF]; try subst hK; try (refine VS.keep [0] ?_; generalize hK : VS _ _ _ = KK; simp; try subst hK))
    | (refine VS.region tabOk (id := 1) [] (by kernel_rfl) ?_; generalize hK : VS _ _ _ = KK; simp [hF]; try subst hK; try (refine VS.keep [0, 3, 4] ?_; generalize hK : VS _ _ _ = KK; simp; try subst hK))
    | (refine VS.region tabOk (id := 2) [] (by kernel_rfl) ?_; generalize hK : VS _ _ _ = KK; simp [hF]; try subst hK; try (refine VS.keep [0, 3, 4, 5] ?_; generalize hK : VS _ _ _ = KK; simp; try subst hK))
    | (refine VS.region tabOk (id := 3) [] (by kernel_rfl) ?_; generalize hK : VS _ _ _ = KK; simp [hF]; try subst hK; try (refine VS.keep [3, 4, 5, 6] ?_; generalize hK : VS _ _ _ = KK; simp; try subst hK))
    | (refine VS.region tabOk (id := 4) [] (by kernel_rfl) ?_; generalize hK : VS _ _ _ = KK; simp [hF]; try subst hK; try (refine VS.keep [3, 4, 5, 6, 7] ?_; generalize hK : VS _ _ _ = KK; simp; try subst hK))
    | (refine VS.region tabOk (id := 5) [] (by kernel_rfl) ?_; generalize hK : VS _ _ _ = KK; simp [hF]; try subst hK; try (refine VS.keep [3, 4, 5, 6, 7, 25] ?_; generalize hK : VS _ _ _ = KK; simp; try subst hK))
    | (refine VS.region tabOk (id := 6) [] (by kernel_rfl) ?_; generalize hK : VS _ _ _ = KK; simp [hF]; try subst hK; try (refine VS.keep [3, 4, 5, 6, 7] ?_; generalize hK : VS _ _ _ = KK; simp; try subst hK))
    | (refine VS.region tabOk (id := 7) [] (by kernel_rfl) ?_; generalize hK : VS _ _ _ = KK; simp [hF]; try subst hK; try (refine VS.keep [3, 4, 5, 6, 7, 9] ?_; generalize hK : VS _ _ _ = KK; simp; try subst hK))
    | (refine VS.region tabOk (id := 8) [] (by kernel_rfl) ?_; generalize hK : VS _ _ _ = KK; simp [hF]; try subst hK; try (refine VS.keep [3, 4, 5, 6, 7, 9, 11] ?_; generalize hK : VS _ _ _ = KK; simp; try subst hK))
    | (refine VS.region tabOk (id := 9) [(3, 41)] (by kernel_rfl) ?_; generalize hK : VS _ _ _ = KK; simp [hF]; try subst hK; try (refine VS.keep [3, 4, 5, 6, 7, 47] ?_; generalize hK : VS _ _ _ = KK; simp; try subst hK))
    | (refine VS.region tabOk (id := 10) [] (by kernel_rfl) ?_; generalize hK : VS _ _ _ = KK; simp [hF]; try subst hK; try (refine VS.keep [2] ?_; generalize hK : VS _ _ _ = KK; simp; try subst hK))
    | (refine VS.region tabOk (id := 11) [] (by kernel_rfl) ?_; generalize hK : VS _ _ _ = KK; simp [hF]; try subst hK; try (refine VS.keep [3, 4, 5, 6, 7, 12] ?_; generalize hK : VS _ _ _ = KK; simp; try subst hK))
    | (refine VS.region tabOk (id := 12) [(2, 50)] (by kernel_rfl) ?_; generalize hK : VS _ _ _ = KK; simp [hF]; try subst hK; try (refine VS.keep [3, 4, 5, 6, 7, 12, 53] ?_; generalize hK : VS _ _ _ = KK; simp; try subst hK))
    | (refine VS.region tabOk (id := 13) [] (by kernel_rfl) ?_; generalize hK : VS _ _ _ = KK; simp [hF]; try subst hK; try (refine VS.keep [3, 4, 5, 6, 7, 12] ?_; generalize hK : VS _ _ _ = KK; simp; try subst hK))
    | (refine VS.region tabOk (id := 14) [] (by kernel_rfl) ?_; generalize hK : VS _ _ _ = KK; simp [hF]; try subst hK; try (refine VS.keep [3, 4, 5, 6, 7, 12] ?_; generalize hK : VS _ _ _ = KK; simp; try subst hK))
    | (refine VS.region tabOk (id := 15) [] (by kernel_rfl) ?_; generalize hK : VS _ _ _ = KK; simp [hF]; try subst hK; try (refine VS.keep [3, 4, 5, 6, 7, 12, 13] ?_; generalize hK : VS _ _ _ = KK; simp; try subst hK))
    | (refine VS.region tabOk (id := 16) [] (by kernel_rfl) ?_; generalize hK : VS _ _ _ = KK; simp [hF]; try subst hK; try (refine VS.keep [3, 4, 5, 6, 7, 12, 76] ?_; generalize hK : VS _ _ _ = KK; simp; try subst hK))
    | (refine VS.region tabOk (id := 17) [] (by kernel_rfl) ?_; generalize hK : VS _ _ _ = KK; simp [hF]; try subst hK; try (refine VS.keep [2] ?_; generalize hK : VS _ _ _ = KK; simp; try subst hK))
    | (refine VS.region tabOk (id := 18) [] (by kernel_rfl) ?_; generalize hK : VS _ _ _ = KK; simp [hF]; try subst hK; try (refine VS.keep [3, 4, 14] ?_; generalize hK : VS _ _ _ = KK; simp; try subst hK))
    | (refine VS.region tabOk (id := 19) [] (by kernel_rfl) ?_; generalize hK : VS _ _ _ = KK; simp [hF]; try subst hK; try (refine VS.keep [3, 4, 14, 78] ?_; generalize hK : VS _ _ _ = KK; simp; try subst hK))
    | (refine VS.region tabOk (id := 20) [] (by kernel_rfl) ?_; generalize hK : VS _ _ _ = KK; simp [hF]; try subst hK; try (refine VS.keep [3, 4, 14] ?_; generalize hK : VS _ _ _ = KK; simp; try subst hK))
    | (refine VS.region tabOk (id := 21) [] (by kernel_rfl) ?_; generalize hK : VS _ _ _ = KK; simp [hF]; try subst hK; try (refine VS.keep [3, 4, 14, 15] ?_; generalize hK : VS _ _ _ = KK; simp; try subst hK))
    | (refine VS.region tabOk (id := 22) [] (by kernel_rfl) ?_; generalize hK : VS _ _ _ = KK; simp [hF]; try subst hK; try (refine VS.keep [3, 4, 14, 15, 17] ?_; generalize hK : VS _ _ _ = KK; simp; try subst hK))
    | (refine VS.region tabOk (id := 23) [] (by kernel_rfl) ?_; generalize hK : VS _ _ _ = KK; simp [hF]; try subst hK; try (refine VS.keep [3, 4, 14, 95] ?_; generalize hK : VS _ _ _ = KK; simp; try subst hK))
    | (refine VS.region tabOk (id := 24) [] (by kernel_rfl) ?_; generalize hK : VS _ _ _ = KK; simp [hF]; try subst hK; try (refine VS.keep [2] ?_; generalize hK : VS _ _ _ = KK; simp; try subst hK))
    | (refine VS.region tabOk (id := 25) [(5, 101), (10, 106)] (by kernel_rfl) ?_; generalize hK : VS _ _ _ = KK; simp [hF]; try subst hK; try (refine VS.keep [2] ?_; generalize hK : VS _ _ _ = KK; simp; try subst hK))
    | (refine VS.cond ?_; generalize hK1 : VS _ _ _ = KK1; generalize hK2 : VS _ _ _ = KK2; simp [hF]; try subst hK1; try subst hK2)
  refine (rnew_ok).call [] (by simp) (by simp [hF]) (by simp [hF]) (by simp [hF]) ?_
  rintro av X κ ⟨rfl, rfl, rfl⟩
  generalize hK : VS _ _ _ = KK; simp [hF]; try subst hK
  repeat first
    | refine VS.seq ?_
    | refine VS.skip ?_
    | refine VS.block ?_
    | refine VS.nil ?_
    | refine blockN_normal ?_
    | refine loopN_normal ?_
    | refine VS.exit ?_
    | refine blockN_hit ?_
    | refine blockN_miss (by decide) ?_
    | refine loopN_exit ?_
    | refine ⟨⟨by omega, by omega⟩, ?_⟩
    | (refine VS.region tabOk (id := 0) [] (by kernel_rfl) ?_; generalize hK : VS _ _ _ = KK; simp [hF]; try subst hK; try (refine VS.keep [0] ?_; generalize hK : VS _ _ _ = KK; simp; try subst hK))
    | (refine VS.region tabOk (id := 1) [] (by kernel_rfl) ?_; generalize hK : VS _ _ _ = KK; simp [hF]; try subst hK; try (refine VS.keep [0, 3, 4] ?_; generalize hK : VS _ _ _ = KK; simp; try subst hK))
    | (refine VS.region tabOk (id := 2) [] (by kernel_rfl) ?_; generalize hK : VS _ _ _ = KK; simp [hF]; try subst hK; try (refine VS.keep [0, 3, 4, 5] ?_; generalize hK : VS _ _ _ = KK; simp; try subst hK))
    | (refine VS.region tabOk (id := 3) [] (by kernel_rfl) ?_; generalize hK : VS _ _ _ = KK; simp [hF]; try subst hK; try (refine VS.keep [3, 4, 5, 6] ?_; generalize hK : VS _ _ _ = KK; simp; try subst hK))
    | (refine VS.region tabOk (id := 4) [] (by kernel_rfl) ?_; generalize hK : VS _ _ _ = KK; simp [hF]; try subst hK; try (refine VS.keep [3, 4, 5, 6, 7] ?_; generalize hK : VS _ _ _ = KK; simp; try subst hK))
    | (refine VS.region tabOk (id := 5) [] (by kernel_rfl) ?_; generalize hK : VS _ _ _ = KK; simp [hF]; try subst hK; try (refine VS.keep [3, 4, 5, 6, 7, 25] ?_; generalize hK : VS _ _ _ = KK; simp; try subst hK))
    | (refine VS.region tabOk (id := 6) [] (by kernel_rfl) ?_; generalize hK : VS _ _ _ = KK; simp [hF]; try subst hK; try (refine VS.keep [3, 4, 5, 6, 7] ?_; generalize hK : VS _ _ _ = KK; simp; try subst hK))
    | (refine VS.region tabOk (id := 7) [] (by kernel_rfl) ?_; generalize hK : VS _ _ _ = KK; simp [hF]; try subst hK; try (refine VS.keep [3, 4, 5, 6, 7, 9] ?_; generalize hK : VS _ _ _ = KK; simp; try subst hK))
    | (refine VS.region tabOk (id := 8) [] (by kernel_rfl) ?_; generalize hK : VS _ _ _ = KK; simp [hF]; try subst hK; try (refine VS.keep [3, 4, 5, 6, 7, 9, 11] ?_; generalize hK : VS _ _ _ = KK; simp; try subst hK))
    | (refine VS.region tabOk (id := 9) [(3, 41)] (by kernel_rfl) ?_; generalize hK : VS _ _ _ = KK; simp [hF]; try subst hK; try (refine VS.keep [3, 4, 5, 6, 7, 47] ?_; generalize hK : VS _ _ _ = KK; simp; try subst hK))
    | (refine VS.region tabOk (id := 10) [] (by kernel_rfl) ?_; generalize hK : VS _ _ _ = KK; simp [hF]; try subst hK; try (refine VS.keep [2] ?_; generalize hK : VS _ _ _ = KK; simp; try subst hK))
    | (refine VS.region tabOk (id := 11) [] (by kernel_rfl) ?_; generalize hK : VS _ _ _ = KK; simp [hF]; try subst hK; try (refine VS.keep [3, 4, 5, 6, 7, 12] ?_; generalize hK : VS _ _ _ = KK; simp; try subst hK))
    | (refine VS.region tabOk (id := 12) [(2, 50)] (by kernel_rfl) ?_; generalize hK : VS _ _ _ = KK; simp [hF]; try subst hK; try (refine VS.keep [3, 4, 5, 6, 7, 12, 53] ?_; generalize hK : VS _ _ _ = KK; simp; try subst hK))
    | (refine VS.region tabOk (id := 13) [] (by kernel_rfl) ?_; generalize hK : VS _ _ _ = KK; simp [hF]; try subst hK; try (refine VS.keep [3, 4, 5, 6, 7, 12] ?_; generalize hK : VS _ _ _ = KK; simp; try subst hK))
    | (refine VS.region tabOk (id := 14) [] (by kernel_rfl) ?_; generalize hK : VS _ _ _ = KK; simp [hF]; try subst hK; try (refine VS.keep [3, 4, 5, 6, 7, 12] ?_; generalize hK : VS _ _ _ = KK; simp; try subst hK))
    | (refine VS.region tabOk (id := 15) [] (by kernel_rfl) ?_; generalize hK : VS _ _ _ = KK; simp [hF]; try subst hK; try (refine VS.keep [3, 4, 5, 6, 7, 12, 13] ?_; generalize hK : VS _ _ _ = KK; simp; try subst hK))
    | (refine VS.region tabOk (id := 16) [] (by kernel_rfl) ?_; generalize hK : VS _ _ _ = KK; simp [hF]; try subst hK; try (refine VS.keep [3, 4, 5, 6, 7, 12, 76] ?_; generalize hK : VS _ _ _ = KK; simp; try subst hK))
    | (refine VS.region tabOk (id := 17) [] (by kernel_rfl) ?_; generalize hK : VS _ _ _ = KK; simp [hF]; try subst hK; try (refine VS.keep [2] ?_; generalize hK : VS _ _ _ = KK; simp; try subst hK))
    | (refine VS.region tabOk (id := 18) [] (by kernel_rfl) ?_; generalize hK : VS _ _ _ = KK; simp [hF]; try subst hK; try (refine VS.keep [3, 4, 14] ?_; generalize hK : VS _ _ _ = KK; simp; try subst hK))
    | (refine VS.region tabOk (id := 19) [] (by kernel_rfl) ?_; generalize hK : VS _ _ _ = KK; simp [hF]; try subst hK; try (refine VS.keep [3, 4, 14, 78] ?_; generalize hK : VS _ _ _ = KK; simp; try subst hK))
    | (refine VS.region tabOk (id := 20) [] (by kernel_rfl) ?_; generalize hK : VS _ _ _ = KK; simp [hF]; try subst hK; try (refine VS.keep [3, 4, 14] ?_; generalize hK : VS _ _ _ = KK; simp; try subst hK))
    | (refine VS.region tabOk (id := 21) [] (by kernel_rfl) ?_; generalize hK : VS _ _ _ = KK; simp [hF]; try subst hK; try (refine VS.keep [3, 4, 14, 15] ?_; generalize hK : VS _ _ _ = KK; simp; try subst hK))
    | (refine VS.region tabOk (id := 22) [] (by kernel_rfl) ?_; generalize hK : VS _ _ _ = KK; simp [hF]; try subst hK; try (refine VS.keep [3, 4, 14, 15, 17] ?_; generalize hK : VS _ _ _ = KK; simp; try subst hK))
    | (refine VS.region tabOk (id := 23) [] (by kernel_rfl) ?_; generalize hK : VS _ _ _ = KK; simp [hF]; try subst hK; try (refine VS.keep [3, 4, 14, 95] ?_; generalize hK : VS _ _ _ = KK; simp; try subst hK))
    | (refine VS.region tabOk (id := 24) [] (by kernel_rfl) ?_; generalize hK : VS _ _ _ = KK; simp [hF]; try subst hK; try (refine VS.keep [2] ?_; generalize hK : VS _ _ _ = KK; simp; try subst hK))
    | (refine VS.region tabOk (id := 25) [(5, 101), (10, 106)] (by kernel_rfl) ?_; generalize hK : VS _ _ _ = KK; simp [hF]; try subst hK; try (refine VS.keep [2] ?_; generalize hK : VS _ _ _ = KK; simp; try subst hK))
    | (refine VS.cond ?_; generalize hK1 : VS _ _ _ = KK1; generalize hK2 : VS _ _ _ = KK2; simp [hF]; try subst hK1; try subst hK2)
  refine (lnames_ok).call [] (by simp) (by simp [hF]) (by simp [hF]) (by simp [hF]) ?_
  rintro av X κ ⟨rfl, rfl, rfl⟩
  generalize hK : VS _ _ _ = KK; simp [hF]; try subst hK
  repeat first
    | refine VS.seq ?_
    | refine VS.skip ?_
    | refine VS.block ?_
    | refine VS.nil ?_
    | refine blockN_normal ?_
    | refine loopN_normal ?_
    | refine VS.exit ?_
    | refine blockN_hit ?_
    | refine blockN_miss (by decide) ?_
    | refine loopN_exit ?_
    | refine ⟨⟨by omega, by omega⟩, ?_⟩
    | (refine VS.region tabOk (id := 0) [] (by kernel_rfl) ?_; generalize hK : VS _ _ _ = KK; simp [hF]; try subst hK; try (refine VS.keep [0] ?_; generalize hK : VS _ _ _ = KK; simp; try subst hK))
    | (refine VS.region tabOk (id := 1) [] (by kernel_rfl) ?_; generalize hK : VS _ _ _ = KK; simp [hF]; try subst hK; try (refine VS.keep [0, 3, 4] ?_; generalize hK : VS _ _ _ = KK; simp; try subst hK))
    | (refine VS.region tabOk (id := 2) [] (by kernel_rfl) ?_; generalize hK : VS _ _ _ = KK; simp [hF]; try subst hK; try (refine VS.keep [0, 3, 4, 5] ?_; generalize hK : VS _ _ _ = KK; simp; try subst hK))
    | (refine VS.region tabOk (id := 3) [] (by kernel_rfl) ?_; generalize hK : VS _ _ _ = KK; simp [hF]; try subst hK; try (refine VS.keep [3, 4, 5, 6] ?_; generalize hK : VS _ _ _ = KK; simp; try subst hK))
    | (refine VS.region tabOk (id := 4) [] (by kernel_rfl) ?_; generalize hK : VS _ _ _ = KK; simp [hF]; try subst hK; try (refine VS.keep [3, 4, 5, 6, 7] ?_; generalize hK : VS _ _ _ = KK; simp; try subst hK))
    | (refine VS.region tabOk (id := 5) [] (by kernel_rfl) ?_; generalize hK : VS _ _ _ = KK; simp [hF]; try subst hK; try (refine VS.keep [3, 4, 5, 6, 7, 25] ?_; generalize hK : VS _ _ _ = KK; simp; try subst hK))
    | (refine VS.region tabOk (id := 6) [] (by kernel_rfl) ?_; generalize hK : VS _ _ _ = KK; simp [hF]; try subst hK; try (refine VS.keep [3, 4, 5, 6, 7] ?_; generalize hK : VS _ _ _ = KK; simp; try subst hK))
    | (refine VS.region tabOk (id := 7) [] (by kernel_rfl) ?_; generalize hK : VS _ _ _ = KK; simp [hF]; try subst hK; try (refine VS.keep [3, 4, 5, 6, 7, 9] ?_; generalize hK : VS _ _ _ = KK; simp; try subst hK))
    | (refine VS.region tabOk (id := 8) [] (by kernel_rfl) ?_; generalize hK : VS _ _ _ = KK; simp [hF]; try subst hK; try (refine VS.keep [3, 4, 5, 6, 7, 9, 11] ?_; generalize hK : VS _ _ _ = KK; simp; try subst hK))
    | (refine VS.region tabOk (id := 9) [(3, 41)] (by kernel_rfl) ?_; generalize hK : VS _ _ _ = KK; simp [hF]; try subst hK; try (refine VS.keep [3, 4, 5, 6, 7, 47] ?_; generalize hK : VS _ _ _ = KK; simp; try subst hK))
    | (refine VS.region tabOk (id := 10) [] (by kernel_rfl) ?_; generalize hK : VS _ _ _ = KK; simp [hF]; try subst hK; try (refine VS.keep [2] ?_; generalize hK : VS _ _ _ = KK; simp; try subst hK))
    | (refine VS.region tabOk (id := 11) [] (by kernel_rfl) ?_; generalize hK : VS _ _ _ = KK; simp [hF]; try subst hK; try (refine VS.keep [3, 4, 5, 6, 7, 12] ?_; generalize hK : VS _ _ _ = KK; simp; try subst hK))
    | (refine VS.region tabOk (id := 12) [(2, 50)] (by kernel_rfl) ?_; generalize hK : VS _ _ _ = KK; simp [hF]; try subst hK; try (refine VS.keep [3, 4, 5, 6, 7, 12, 53] ?_; generalize hK : VS _ _ _ = KK; simp; try subst hK))
    | (refine VS.region tabOk (id := 13) [] (by kernel_rfl) ?_; generalize hK : VS _ _ _ = KK; simp [hF]; try subst hK; try (refine VS.keep [3, 4, 5, 6, 7, 12] ?_; generalize hK : VS _ _ _ = KK; simp; try subst hK))
    | (refine VS.region tabOk (id := 14) [] (by kernel_rfl) ?_; generalize hK : VS _ _ _ = KK; simp [hF]; try subst hK; try (refine VS.keep [3, 4, 5, 6, 7, 12] ?_; generalize hK : VS _ _ _ = KK; simp; try subst hK))
    | (refine VS.region tabOk (id := 15) [] (by kernel_rfl) ?_; generalize hK : VS _ _ _ = KK; simp [hF]; try subst hK; try (refine VS.keep [3, 4, 5, 6, 7, 12, 13] ?_; generalize hK : VS _ _ _ = KK; simp; try subst hK))
    | (refine VS.region tabOk (id := 16) [] (by kernel_rfl) ?_; generalize hK : VS _ _ _ = KK; simp [hF]; try subst hK; try (refine VS.keep [3, 4, 5, 6, 7, 12, 76] ?_; generalize hK : VS _ _ _ = KK; simp; try subst hK))
    | (refine VS.region tabOk (id := 17) [] (by kernel_rfl) ?_; generalize hK : VS _ _ _ = KK; simp [hF]; try subst hK; try (refine VS.keep [2] ?_; generalize hK : VS _ _ _ = KK; simp; try subst hK))
    | (refine VS.region tabOk (id := 18) [] (by kernel_rfl) ?_; generalize hK : VS _ _ _ = KK; simp [hF]; try subst hK; try (refine VS.keep [3, 4, 14] ?_; generalize hK : VS _ _ _ = KK; simp; try subst hK))
    | (refine VS.region tabOk (id := 19) [] (by kernel_rfl) ?_; generalize hK : VS _ _ _ = KK; simp [hF]; try subst hK; try (refine VS.keep [3, 4, 14, 78] ?_; generalize hK : VS _ _ _ = KK; simp; try subst hK))
    | (refine VS.region tabOk (id := 20) [] (by kernel_rfl) ?_; generalize hK : VS _ _ _ = KK; simp [hF]; try subst hK; try (refine VS.keep [3, 4, 14] ?_; generalize hK : VS _ _ _ = KK; simp; try subst hK))
    | (refine VS.region tabOk (id := 21) [] (by kernel_rfl) ?_; generalize hK : VS _ _ _ = KK; simp [hF]; try subst hK; try (refine VS.keep [3, 4, 14, 15] ?_; generalize hK : VS _ _ _ = KK; simp; try subst hK))
    | (refine VS.region tabOk (id := 22) [] (by kernel_rfl) ?_; generalize hK : VS _ _ _ = KK; simp [hF]; try subst hK; try (refine VS.keep [3, 4, 14, 15, 17] ?_; generalize hK : VS _ _ _ = KK; simp; try subst hK))
    | (refine VS.region tabOk (id := 23) [] (by kernel_rfl) ?_; generalize hK : VS _ _ _ = KK; simp [hF]; try subst hK; try (refine VS.keep [3, 4, 14, 95] ?_; generalize hK : VS _ _ _ = KK; simp; try subst hK))
    | (refine VS.region tabOk (id := 24) [] (by kernel_rfl) ?_; generalize hK : VS _ _ _ = KK; simp [hF]; try subst hK; try (refine VS.keep [2] ?_; generalize hK : VS _ _ _ = KK; simp; try subst hK))
    | (refine VS.region tabOk (id := 25) [(5, 101), (10, 106)] (by kernel_rfl) ?_; generalize hK : VS _ _ _ = KK; simp [hF]; try subst hK; try (refine VS.keep [2] ?_; generalize hK : VS _ _ _ = KK; simp; try subst hK))
    | (refine VS.cond ?_; generalize hK1 : VS _ _ _ = KK1; generalize hK2 : VS _ _ _ = KK2; simp [hF]; try subst hK1; try subst hK2)
  have hpos0 : 0 < sp0.shapes.length := by simp [sp0]
  have hu : ∀ x : Int, 0 ≤ IntKind.u64.wrap x := fun x => by simp only [IntKind.wrap, IntKind.bits, IntKind.signed]; simp; omega
  refine VS.rounds (fun m st => ∃ (o : Nat) (S : Sp) (at_ : Int), o + m = 101 ∧ 0 < S.shapes.length ∧ WF S (6 * o) ∧ S.objs.length = min o 100 ∧ 0 ≤ at_ ∧
    st = ⟨[(3, .ptr 0 [.d]), (4, .ptr 1 [.d]), (5, .sub 2 [] 0 15 true), (6, .val (.int .u64 at_)), (7, avInt o)], [dSp S, dRSp S, .sl true () 1 (dStrs lnames)], [], []⟩)
    ⟨101, 0, sp0, _, rfl, hpos0, sp0_wf, by simp [sp0], hu seed, rfl⟩ ?_
  rintro m st ⟨o, S, at_, hom, hpos, hwf, hlen, hat, rfl⟩
  repeat first
    | refine VS.seq ?_
    | refine VS.skip ?_
    | refine VS.block ?_
    | refine VS.nil ?_
    | refine blockN_normal ?_
    | refine loopN_normal ?_
    | refine VS.exit ?_
    | refine blockN_hit ?_
    | refine blockN_miss (by decide) ?_
    | refine loopN_exit ?_
    | refine ⟨⟨by omega, by omega⟩, ?_⟩
    | (refine VS.region tabOk (id := 0) [] (by kernel_rfl) ?_; generalize hK : VS _ _ _ = KK; simp [hF]; try subst hK; try (refine VS.keep [0] ?_; generalize hK : VS _ _ _ = KK; simp; try subst hK))
    | (refine VS.region tabOk (id := 1) [] (by kernel_rfl) ?_; generalize hK : VS _ _ _ = KK; simp [hF]; try subst hK; try (refine VS.keep [0, 3, 4] ?_; generalize hK : VS _ _ _ = KK; simp; try subst hK))
    | (refine VS.region tabOk (id := 2) [] (by kernel_rfl) ?_; generalize hK : VS _ _ _ = KK; simp [hF]; try subst hK; try (refine VS.keep [0, 3, 4, 5] ?_; generalize hK : VS _ _ _ = KK; simp; try subst hK))
    | (refine VS.region tabOk (id := 3) [] (by kernel_rfl) ?_; generalize hK : VS _ _ _ = KK; simp [hF]; try subst hK; try (refine VS.keep [3, 4, 5, 6] ?_; generalize hK : VS _ _ _ = KK; simp; try subst hK))
    | (refine VS.region tabOk (id := 4) [] (by kernel_rfl) ?_; generalize hK : VS _ _ _ = KK; simp [hF]; try subst hK; try (refine VS.keep [3, 4, 5, 6, 7] ?_; generalize hK : VS _ _ _ = KK; simp; try subst hK))
    | (refine VS.region tabOk (id := 5) [] (by kernel_rfl) ?_; generalize hK : VS _ _ _ = KK; simp [hF]; try subst hK; try (refine VS.keep [3, 4, 5, 6, 7, 25] ?_; generalize hK : VS _ _ _ = KK; simp; try subst hK))
    | (refine VS.region tabOk (id := 6) [] (by kernel_rfl) ?_; generalize hK : VS _ _ _ = KK; simp [hF]; try subst hK; try (refine VS.keep [3, 4, 5, 6, 7] ?_; generalize hK : VS _ _ _ = KK; simp; try subst hK))
    | (refine VS.region tabOk (id := 7) [] (by kernel_rfl) ?_; generalize hK : VS _ _ _ = KK; simp [hF]; try subst hK; try (refine VS.keep [3, 4, 5, 6, 7, 9] ?_; generalize hK : VS _ _ _ = KK; simp; try subst hK))
    | (refine VS.region tabOk (id := 8) [] (by kernel_rfl) ?_; generalize hK : VS _ _ _ = KK; simp [hF]; try subst hK; try (refine VS.keep [3, 4, 5, 6, 7, 9, 11] ?_; generalize hK : VS _ _ _ = KK; simp; try subst hK))
    | (refine VS.region tabOk (id := 9) [(3, 41)] (by kernel_rfl) ?_; generalize hK : VS _ _ _ = KK; simp [hF]; try subst hK; try (refine VS.keep [3, 4, 5, 6, 7, 47] ?_; generalize hK : VS _ _ _ = KK; simp; try subst hK))
    | (refine VS.region tabOk (id := 10) [] (by kernel_rfl) ?_; generalize hK : VS _ _ _ = KK; simp [hF]; try subst hK; try (refine VS.keep [2] ?_; generalize hK : VS _ _ _ = KK; simp; try subst hK))
    | (refine VS.region tabOk (id := 11) [] (by kernel_rfl) ?_; generalize hK : VS _ _ _ = KK; simp [hF]; try subst hK; try (refine VS.keep [3, 4, 5, 6, 7, 12] ?_; generalize hK : VS _ _ _ = KK; simp; try subst hK))
    | (refine VS.region tabOk (id := 12) [(2, 50)] (by kernel_rfl) ?_; generalize hK : VS _ _ _ = KK; simp [hF]; try subst hK; try (refine VS.keep [3, 4, 5, 6, 7, 12, 53] ?_; generalize hK : VS _ _ _ = KK; simp; try subst hK))
    | (refine VS.region tabOk (id := 13) [] (by kernel_rfl) ?_; generalize hK : VS _ _ _ = KK; simp [hF]; try subst hK; try (refine VS.keep [3, 4, 5, 6, 7, 12] ?_; generalize hK : VS _ _ _ = KK; simp; try subst hK))
    | (refine VS.region tabOk (id := 14) [] (by kernel_rfl) ?_; generalize hK : VS _ _ _ = KK; simp [hF]; try subst hK; try (refine VS.keep [3, 4, 5, 6, 7, 12] ?_; generalize hK : VS _ _ _ = KK; simp; try subst hK))
    | (refine VS.region tabOk (id := 15) [] (by kernel_rfl) ?_; generalize hK : VS _ _ _ = KK; simp [hF]; try subst hK; try (refine VS.keep [3, 4, 5, 6, 7, 12, 13] ?_; generalize hK : VS _ _ _ = KK; simp; try subst hK))
    | (refine VS.region tabOk (id := 16) [] (by kernel_rfl) ?_; generalize hK : VS _ _ _ = KK; simp [hF]; try subst hK; try (refine VS.keep [3, 4, 5, 6, 7, 12, 76] ?_; generalize hK : VS _ _ _ = KK; simp; try subst hK))
    | (refine VS.region tabOk (id := 17) [] (by kernel_rfl) ?_; generalize hK : VS _ _ _ = KK; simp [hF]; try subst hK; try (refine VS.keep [2] ?_; generalize hK : VS _ _ _ = KK; simp; try subst hK))
    | (refine VS.region tabOk (id := 18) [] (by kernel_rfl) ?_; generalize hK : VS _ _ _ = KK; simp [hF]; try subst hK; try (refine VS.keep [3, 4, 14] ?_; generalize hK : VS _ _ _ = KK; simp; try subst hK))
    | (refine VS.region tabOk (id := 19) [] (by kernel_rfl) ?_; generalize hK : VS _ _ _ = KK; simp [hF]; try subst hK; try (refine VS.keep [3, 4, 14, 78] ?_; generalize hK : VS _ _ _ = KK; simp; try subst hK))
    | (refine VS.region tabOk (id := 20) [] (by kernel_rfl) ?_; generalize hK : VS _ _ _ = KK; simp [hF]; try subst hK; try (refine VS.keep [3, 4, 14] ?_; generalize hK : VS _ _ _ = KK; simp; try subst hK))
    | (refine VS.region tabOk (id := 21) [] (by kernel_rfl) ?_; generalize hK : VS _ _ _ = KK; simp [hF]; try subst hK; try (refine VS.keep [3, 4, 14, 15] ?_; generalize hK : VS _ _ _ = KK; simp; try subst hK))
    | (refine VS.region tabOk (id := 22) [] (by kernel_rfl) ?_; generalize hK : VS _ _ _ = KK; simp [hF]; try subst hK; try (refine VS.keep [3, 4, 14, 15, 17] ?_; generalize hK : VS _ _ _ = KK; simp; try subst hK))
    | (refine VS.region tabOk (id := 23) [] (by kernel_rfl) ?_; generalize hK : VS _ _ _ = KK; simp [hF]; try subst hK; try (refine VS.keep [3, 4, 14, 95] ?_; generalize hK : VS _ _ _ = KK; simp; try subst hK))
    | (refine VS.region tabOk (id := 24) [] (by kernel_rfl) ?_; generalize hK : VS _ _ _ = KK; simp [hF]; try subst hK; try (refine VS.keep [2] ?_; generalize hK : VS _ _ _ = KK; simp; try subst hK))
    | (refine VS.region tabOk (id := 25) [(5, 101), (10, 106)] (by kernel_rfl) ?_; generalize hK : VS _ _ _ = KK; simp [hF]; try subst hK; try (refine VS.keep [2] ?_; generalize hK : VS _ _ _ = KK; simp; try subst hK))
    | (refine VS.cond ?_; generalize hK1 : VS _ _ _ = KK1; generalize hK2 : VS _ _ _ = KK2; simp [hF]; try subst hK1; try subst hK2)
  refine ⟨fun hlt => ?_, fun hge => ?_⟩
  · have hr : realB S = true := by simpa [realB] using hpos
    obtain ⟨S1, n1, e1, hm, hpos1, hwf1, hlen1, hfull⟩ : ∃ S1 n1 e1, makeOf S = (S1, n1, e1) ∧ 0 < S1.shapes.length ∧ WF S1 (6 * o) ∧ S1.objs.length = min (o + 1) 100 ∧ (if o = 100 then e1 = 9 else e1 = 0) := by
      have w1 := makeOf_wf hwf hpos
      by_cases h1 : 100 ≤ S.objs.length
      · exact ⟨S, 0, 9, by simp [makeOf, hr, h1], hpos, hwf, by omega, by rw [if_pos (by omega)]⟩
      · have hmk : makeOf S = (⟨S.shapes, S.objs ++ [⟨0, [], [], false⟩]⟩, (S.objs.length : Int), 0) := by simp [makeOf, hr, h1]
        rw [hmk] at w1
        exact ⟨_, _, _, hmk, hpos, w1, by simp; omega, by rw [if_neg (by omega)]⟩
    have hiff : ((o : Int) = 100 ↔ e1 = 9) := by
      by_cases h1 : o = 100
      · rw [if_pos h1] at hfull; subst h1; simp [hfull]
      · rw [if_neg h1] at hfull
        constructor
        · intro h; omega
        · intro h; omega
    repeat first
      | refine VS.seq ?_
      | refine VS.skip ?_
      | refine VS.block ?_
      | refine VS.nil ?_
      | refine blockN_normal ?_
      | refine loopN_normal ?_
      | refine VS.exit ?_
      | refine blockN_hit ?_
      | refine blockN_miss (by decide) ?_
      | refine loopN_exit ?_
      | refine ⟨⟨by omega, by omega⟩, ?_⟩
      | (refine VS.region tabOk (id := 0) [] (by kernel_rfl) ?_; generalize hK : VS _ _ _ = KK; simp [hF]; try subst hK; try (refine VS.keep [0] ?_; generalize hK : VS _ _ _ = KK; simp; try subst hK))
      | (refine VS.region tabOk (id := 1) [] (by kernel_rfl) ?_; generalize hK : VS _ _ _ = KK; simp [hF]; try subst hK; try (refine VS.keep [0, 3, 4] ?_; generalize hK : VS _ _ _ = KK; simp; try subst hK))
      | (refine VS.region tabOk (id := 2) [] (by kernel_rfl) ?_; generalize hK : VS _ _ _ = KK; simp [hF]; try subst hK; try (refine VS.keep [0, 3, 4, 5] ?_; generalize hK : VS _ _ _ = KK; simp; try subst hK))
      | (refine VS.region tabOk (id := 3) [] (by kernel_rfl) ?_; generalize hK : VS _ _ _ = KK; simp [hF]; try subst hK; try (refine VS.keep [3, 4, 5, 6] ?_; generalize hK : VS _ _ _ = KK; simp; try subst hK))
      | (refine VS.region tabOk (id := 4) [] (by kernel_rfl) ?_; generalize hK : VS _ _ _ = KK; simp [hF]; try subst hK; try (refine VS.keep [3, 4, 5, 6, 7] ?_; generalize hK : VS _ _ _ = KK; simp; try subst hK))
      | (refine VS.region tabOk (id := 5) [] (by kernel_rfl) ?_; generalize hK : VS _ _ _ = KK; simp [hF]; try subst hK; try (refine VS.keep [3, 4, 5, 6, 7, 25] ?_; generalize hK : VS _ _ _ = KK; simp; try subst hK))
      | (refine VS.region tabOk (id := 6) [] (by kernel_rfl) ?_; generalize hK : VS _ _ _ = KK; simp [hF]; try subst hK; try (refine VS.keep [3, 4, 5, 6, 7] ?_; generalize hK : VS _ _ _ = KK; simp; try subst hK))
      | (refine VS.region tabOk (id := 7) [] (by kernel_rfl) ?_; generalize hK : VS _ _ _ = KK; simp [hF]; try subst hK; try (refine VS.keep [3, 4, 5, 6, 7, 9] ?_; generalize hK : VS _ _ _ = KK; simp; try subst hK))
      | (refine VS.region tabOk (id := 8) [] (by kernel_rfl) ?_; generalize hK : VS _ _ _ = KK; simp [hF]; try subst hK; try (refine VS.keep [3, 4, 5, 6, 7, 9, 11] ?_; generalize hK : VS _ _ _ = KK; simp; try subst hK))
      | (refine VS.region tabOk (id := 9) [(3, 41)] (by kernel_rfl) ?_; generalize hK : VS _ _ _ = KK; simp [hF]; try subst hK; try (refine VS.keep [3, 4, 5, 6, 7, 47] ?_; generalize hK : VS _ _ _ = KK; simp; try subst hK))
      | (refine VS.region tabOk (id := 10) [] (by kernel_rfl) ?_; generalize hK : VS _ _ _ = KK; simp [hF]; try subst hK; try (refine VS.keep [2] ?_; generalize hK : VS _ _ _ = KK; simp; try subst hK))
      | (refine VS.region tabOk (id := 11) [] (by kernel_rfl) ?_; generalize hK : VS _ _ _ = KK; simp [hF]; try subst hK; try (refine VS.keep [3, 4, 5, 6, 7, 12] ?_; generalize hK : VS _ _ _ = KK; simp; try subst hK))
      | (refine VS.region tabOk (id := 12) [(2, 50)] (by kernel_rfl) ?_; generalize hK : VS _ _ _ = KK; simp [hF]; try subst hK; try (refine VS.keep [3, 4, 5, 6, 7, 12, 53] ?_; generalize hK : VS _ _ _ = KK; simp; try subst hK))
      | (refine VS.region tabOk (id := 13) [] (by kernel_rfl) ?_; generalize hK : VS _ _ _ = KK; simp [hF]; try subst hK; try (refine VS.keep [3, 4, 5, 6, 7, 12] ?_; generalize hK : VS _ _ _ = KK; simp; try subst hK))
      | (refine VS.region tabOk (id := 14) [] (by kernel_rfl) ?_; generalize hK : VS _ _ _ = KK; simp [hF]; try subst hK; try (refine VS.keep [3, 4, 5, 6, 7, 12] ?_; generalize hK : VS _ _ _ = KK; simp; try subst hK))
      | (refine VS.region tabOk (id := 15) [] (by kernel_rfl) ?_; generalize hK : VS _ _ _ = KK; simp [hF]; try subst hK; try (refine VS.keep [3, 4, 5, 6, 7, 12, 13] ?_; generalize hK : VS _ _ _ = KK; simp; try subst hK))
      | (refine VS.region tabOk (id := 16) [] (by kernel_rfl) ?_; generalize hK : VS _ _ _ = KK; simp [hF]; try subst hK; try (refine VS.keep [3, 4, 5, 6, 7, 12, 76] ?_; generalize hK : VS _ _ _ = KK; simp; try subst hK))
      | (refine VS.region tabOk (id := 17) [] (by kernel_rfl) ?_; generalize hK : VS _ _ _ = KK; simp [hF]; try subst hK; try (refine VS.keep [2] ?_; generalize hK : VS _ _ _ = KK; simp; try subst hK))
      | (refine VS.region tabOk (id := 18) [] (by kernel_rfl) ?_; generalize hK : VS _ _ _ = KK; simp [hF]; try subst hK; try (refine VS.keep [3, 4, 14] ?_; generalize hK : VS _ _ _ = KK; simp; try subst hK))
      | (refine VS.region tabOk (id := 19) [] (by kernel_rfl) ?_; generalize hK : VS _ _ _ = KK; simp [hF]; try subst hK; try (refine VS.keep [3, 4, 14, 78] ?_; generalize hK : VS _ _ _ = KK; simp; try subst hK))
      | (refine VS.region tabOk (id := 20) [] (by kernel_rfl) ?_; generalize hK : VS _ _ _ = KK; simp [hF]; try subst hK; try (refine VS.keep [3, 4, 14] ?_; generalize hK : VS _ _ _ = KK; simp; try subst hK))
      | (refine VS.region tabOk (id := 21) [] (by kernel_rfl) ?_; generalize hK : VS _ _ _ = KK; simp [hF]; try subst hK; try (refine VS.keep [3, 4, 14, 15] ?_; generalize hK : VS _ _ _ = KK; simp; try subst hK))
      | (refine VS.region tabOk (id := 22) [] (by kernel_rfl) ?_; generalize hK : VS _ _ _ = KK; simp [hF]; try subst hK; try (refine VS.keep [3, 4, 14, 15, 17] ?_; generalize hK : VS _ _ _ = KK; simp; try subst hK))
      | (refine VS.region tabOk (id := 23) [] (by kernel_rfl) ?_; generalize hK : VS _ _ _ = KK; simp [hF]; try subst hK; try (refine VS.keep [3, 4, 14, 95] ?_; generalize hK : VS _ _ _ = KK; simp; try subst hK))
      | (refine VS.region tabOk (id := 24) [] (by kernel_rfl) ?_; generalize hK : VS _ _ _ = KK; simp [hF]; try subst hK; try (refine VS.keep [2] ?_; generalize hK : VS _ _ _ = KK; simp; try subst hK))
      | (refine VS.region tabOk (id := 25) [(5, 101), (10, 106)] (by kernel_rfl) ?_; generalize hK : VS _ _ _ = KK; simp [hF]; try subst hK; try (refine VS.keep [2] ?_; generalize hK : VS _ _ _ = KK; simp; try subst hK))
      | (refine VS.cond ?_; generalize hK1 : VS _ _ _ = KK1; generalize hK2 : VS _ _ _ = KK2; simp [hF]; try subst hK1; try subst hK2)
    refine (make_ok S).call [(0, [])] (by simp) (by simp [hF, hm, dSp]) (by simp [hF, hm, dSp]) (by simp [hF, hm, dSp]) ?_
    rintro av X κ ⟨rfl, rfl, rfl⟩
    generalize hK : VS _ _ _ = KK; simp [hF, hm, dSp]; try subst hK
    repeat first
      | refine VS.seq ?_
      | refine VS.skip ?_
      | refine VS.block ?_
      | refine VS.nil ?_
      | refine blockN_normal ?_
      | refine loopN_normal ?_
      | refine VS.exit ?_
      | refine blockN_hit ?_
      | refine blockN_miss (by decide) ?_
      | refine loopN_exit ?_
      | refine ⟨⟨by omega, by omega⟩, ?_⟩
      | (refine VS.region tabOk (id := 0) [] (by kernel_rfl) ?_; generalize hK : VS _ _ _ = KK; simp [hF]; try subst hK; try (refine VS.keep [0] ?_; generalize hK : VS _ _ _ = KK; simp; try subst hK))
      | (refine VS.region tabOk (id := 1) [] (by kernel_rfl) ?_; generalize hK : VS _ _ _ = KK; simp [hF]; try subst hK; try (refine VS.keep [0, 3, 4] ?_; generalize hK : VS _ _ _ = KK; simp; try subst hK))
      | (refine VS.region tabOk (id := 2) [] (by kernel_rfl) ?_; generalize hK : VS _ _ _ = KK; simp [hF]; try subst hK; try (refine VS.keep [0, 3, 4, 5] ?_; generalize hK : VS _ _ _ = KK; simp; try subst hK))
      | (refine VS.region tabOk (id := 3) [] (by kernel_rfl) ?_; generalize hK : VS _ _ _ = KK; simp [hF]; try subst hK; try (refine VS.keep [3, 4, 5, 6] ?_; generalize hK : VS _ _ _ = KK; simp; try subst hK))
      | (refine VS.region tabOk (id := 4) [] (by kernel_rfl) ?_; generalize hK : VS _ _ _ = KK; simp [hF]; try subst hK; try (refine VS.keep [3, 4, 5, 6, 7] ?_; generalize hK : VS _ _ _ = KK; simp; try subst hK))
      | (refine VS.region tabOk (id := 5) [] (by kernel_rfl) ?_; generalize hK : VS _ _ _ = KK; simp [hF]; try subst hK; try (refine VS.keep [3, 4, 5, 6, 7, 25] ?_; generalize hK : VS _ _ _ = KK; simp; try subst hK))
      | (refine VS.region tabOk (id := 6) [] (by kernel_rfl) ?_; generalize hK : VS _ _ _ = KK; simp [hF]; try subst hK; try (refine VS.keep [3, 4, 5, 6, 7] ?_; generalize hK : VS _ _ _ = KK; simp; try subst hK))
      | (refine VS.region tabOk (id := 7) [] (by kernel_rfl) ?_; generalize hK : VS _ _ _ = KK; simp [hF]; try subst hK; try (refine VS.keep [3, 4, 5, 6, 7, 9] ?_; generalize hK : VS _ _ _ = KK; simp; try subst hK))
      | (refine VS.region tabOk (id := 8) [] (by kernel_rfl) ?_; generalize hK : VS _ _ _ = KK; simp [hF]; try subst hK; try (refine VS.keep [3, 4, 5, 6, 7, 9, 11] ?_; generalize hK : VS _ _ _ = KK; simp; try subst hK))
      | (refine VS.region tabOk (id := 9) [(3, 41)] (by kernel_rfl) ?_; generalize hK : VS _ _ _ = KK; simp [hF]; try subst hK; try (refine VS.keep [3, 4, 5, 6, 7, 47] ?_; generalize hK : VS _ _ _ = KK; simp; try subst hK))
      | (refine VS.region tabOk (id := 10) [] (by kernel_rfl) ?_; generalize hK : VS _ _ _ = KK; simp [hF]; try subst hK; try (refine VS.keep [2] ?_; generalize hK : VS _ _ _ = KK; simp; try subst hK))
      | (refine VS.region tabOk (id := 11) [] (by kernel_rfl) ?_; generalize hK : VS _ _ _ = KK; simp [hF]; try subst hK; try (refine VS.keep [3, 4, 5, 6, 7, 12] ?_; generalize hK : VS _ _ _ = KK; simp; try subst hK))
      | (refine VS.region tabOk (id := 12) [(2, 50)] (by kernel_rfl) ?_; generalize hK : VS _ _ _ = KK; simp [hF]; try subst hK; try (refine VS.keep [3, 4, 5, 6, 7, 12, 53] ?_; generalize hK : VS _ _ _ = KK; simp; try subst hK))
      | (refine VS.region tabOk (id := 13) [] (by kernel_rfl) ?_; generalize hK : VS _ _ _ = KK; simp [hF]; try subst hK; try (refine VS.keep [3, 4, 5, 6, 7, 12] ?_; generalize hK : VS _ _ _ = KK; simp; try subst hK))
      | (refine VS.region tabOk (id := 14) [] (by kernel_rfl) ?_; generalize hK : VS _ _ _ = KK; simp [hF]; try subst hK; try (refine VS.keep [3, 4, 5, 6, 7, 12] ?_; generalize hK : VS _ _ _ = KK; simp; try subst hK))
      | (refine VS.region tabOk (id := 15) [] (by kernel_rfl) ?_; generalize hK : VS _ _ _ = KK; simp [hF]; try subst hK; try (refine VS.keep [3, 4, 5, 6, 7, 12, 13] ?_; generalize hK : VS _ _ _ = KK; simp; try subst hK))
      | (refine VS.region tabOk (id := 16) [] (by kernel_rfl) ?_; generalize hK : VS _ _ _ = KK; simp [hF]; try subst hK; try (refine VS.keep [3, 4, 5, 6, 7, 12, 76] ?_; generalize hK : VS _ _ _ = KK; simp; try subst hK))
      | (refine VS.region tabOk (id := 17) [] (by kernel_rfl) ?_; generalize hK : VS _ _ _ = KK; simp [hF]; try subst hK; try (refine VS.keep [2] ?_; generalize hK : VS _ _ _ = KK; simp; try subst hK))
      | (refine VS.region tabOk (id := 18) [] (by kernel_rfl) ?_; generalize hK : VS _ _ _ = KK; simp [hF]; try subst hK; try (refine VS.keep [3, 4, 14] ?_; generalize hK : VS _ _ _ = KK; simp; try subst hK))
      | (refine VS.region tabOk (id := 19) [] (by kernel_rfl) ?_; generalize hK : VS _ _ _ = KK; simp [hF]; try subst hK; try (refine VS.keep [3, 4, 14, 78] ?_; generalize hK : VS _ _ _ = KK; simp; try subst hK))
      | (refine VS.region tabOk (id := 20) [] (by kernel_rfl) ?_; generalize hK : VS _ _ _ = KK; simp [hF]; try subst hK; try (refine VS.keep [3, 4, 14] ?_; generalize hK : VS _ _ _ = KK; simp; try subst hK))
      | (refine VS.region tabOk (id := 21) [] (by kernel_rfl) ?_; generalize hK : VS _ _ _ = KK; simp [hF]; try subst hK; try (refine VS.keep [3, 4, 14, 15] ?_; generalize hK : VS _ _ _ = KK; simp; try subst hK))
      | (refine VS.region tabOk (id := 22) [] (by kernel_rfl) ?_; generalize hK : VS _ _ _ = KK; simp [hF]; try subst hK; try (refine VS.keep [3, 4, 14, 15, 17] ?_; generalize hK : VS _ _ _ = KK; simp; try subst hK))
      | (refine VS.region tabOk (id := 23) [] (by kernel_rfl) ?_; generalize hK : VS _ _ _ = KK; simp [hF]; try subst hK; try (refine VS.keep [3, 4, 14, 95] ?_; generalize hK : VS _ _ _ = KK; simp; try subst hK))
      | (refine VS.region tabOk (id := 24) [] (by kernel_rfl) ?_; generalize hK : VS _ _ _ = KK; simp [hF]; try subst hK; try (refine VS.keep [2] ?_; generalize hK : VS _ _ _ = KK; simp; try subst hK))
      | (refine VS.region tabOk (id := 25) [(5, 101), (10, 106)] (by kernel_rfl) ?_; generalize hK : VS _ _ _ = KK; simp [hF]; try subst hK; try (refine VS.keep [2] ?_; generalize hK : VS _ _ _ = KK; simp; try subst hK))
      | (refine VS.cond ?_; generalize hK1 : VS _ _ _ = KK1; generalize hK2 : VS _ _ _ = KK2; simp [hF]; try subst hK1; try subst hK2)
    refine (rmake_ok S hpos).call [(1, [])] (by simp) (by simp [hF, hm, dRSp]) (by simp [hF, hm, dRSp]) (by simp [hF, hm, dRSp]) ?_
    rintro av X κ ⟨rfl, rfl, rfl⟩
    generalize hK : VS _ _ _ = KK; simp [hF, hm, dRSp]; try subst hK
    repeat first
      | refine VS.seq ?_
      | refine VS.skip ?_
      | refine VS.block ?_
      | refine VS.nil ?_
      | refine blockN_normal ?_
      | refine loopN_normal ?_
      | refine VS.exit ?_
      | refine blockN_hit ?_
      | refine blockN_miss (by decide) ?_
      | refine loopN_exit ?_
      | refine ⟨⟨by omega, by omega⟩, ?_⟩
      | (refine VS.region tabOk (id := 0) [] (by kernel_rfl) ?_; generalize hK : VS _ _ _ = KK; simp [hF, hiff]; try subst hK; try (refine VS.keep [0] ?_; generalize hK : VS _ _ _ = KK; simp; try subst hK))
      | (refine VS.region tabOk (id := 1) [] (by kernel_rfl) ?_; generalize hK : VS _ _ _ = KK; simp [hF, hiff]; try subst hK; try (refine VS.keep [0, 3, 4] ?_; generalize hK : VS _ _ _ = KK; simp; try subst hK))
      | (refine VS.region tabOk (id := 2) [] (by kernel_rfl) ?_; generalize hK : VS _ _ _ = KK; simp [hF, hiff]; try subst hK; try (refine VS.keep [0, 3, 4, 5] ?_; generalize hK : VS _ _ _ = KK; simp; try subst hK))
      | (refine VS.region tabOk (id := 3) [] (by kernel_rfl) ?_; generalize hK : VS _ _ _ = KK; simp [hF, hiff]; try subst hK; try (refine VS.keep [3, 4, 5, 6] ?_; generalize hK : VS _ _ _ = KK; simp; try subst hK))
      | (refine VS.region tabOk (id := 4) [] (by kernel_rfl) ?_; generalize hK : VS _ _ _ = KK; simp [hF, hiff]; try subst hK; try (refine VS.keep [3, 4, 5, 6, 7] ?_; generalize hK : VS _ _ _ = KK; simp; try subst hK))
      | (refine VS.region tabOk (id := 5) [] (by kernel_rfl) ?_; generalize hK : VS _ _ _ = KK; simp [hF, hiff]; try subst hK; try (refine VS.keep [3, 4, 5, 6, 7, 25] ?_; generalize hK : VS _ _ _ = KK; simp; try subst hK))
      | (refine VS.region tabOk (id := 6) [] (by kernel_rfl) ?_; generalize hK : VS _ _ _ = KK; simp [hF, hiff]; try subst hK; try (refine VS.keep [3, 4, 5, 6, 7] ?_; generalize hK : VS _ _ _ = KK; simp; try subst hK))
      | (refine VS.region tabOk (id := 7) [] (by kernel_rfl) ?_; generalize hK : VS _ _ _ = KK; simp [hF, hiff]; try subst hK; try (refine VS.keep [3, 4, 5, 6, 7, 9] ?_; generalize hK : VS _ _ _ = KK; simp; try subst hK))
      | (refine VS.region tabOk (id := 8) [] (by kernel_rfl) ?_; generalize hK : VS _ _ _ = KK; simp [hF, hiff]; try subst hK; try (refine VS.keep [3, 4, 5, 6, 7, 9, 11] ?_; generalize hK : VS _ _ _ = KK; simp; try subst hK))
      | (refine VS.region tabOk (id := 9) [(3, 41)] (by kernel_rfl) ?_; generalize hK : VS _ _ _ = KK; simp [hF, hiff]; try subst hK; try (refine VS.keep [3, 4, 5, 6, 7, 47] ?_; generalize hK : VS _ _ _ = KK; simp; try subst hK))
      | (refine VS.region tabOk (id := 10) [] (by kernel_rfl) ?_; generalize hK : VS _ _ _ = KK; simp [hF, hiff]; try subst hK; try (refine VS.keep [2] ?_; generalize hK : VS _ _ _ = KK; simp; try subst hK))
      | (refine VS.region tabOk (id := 11) [] (by kernel_rfl) ?_; generalize hK : VS _ _ _ = KK; simp [hF, hiff]; try subst hK; try (refine VS.keep [3, 4, 5, 6, 7, 12] ?_; generalize hK : VS _ _ _ = KK; simp; try subst hK))
      | (refine VS.region tabOk (id := 12) [(2, 50)] (by kernel_rfl) ?_; generalize hK : VS _ _ _ = KK; simp [hF, hiff]; try subst hK; try (refine VS.keep [3, 4, 5, 6, 7, 12, 53] ?_; generalize hK : VS _ _ _ = KK; simp; try subst hK))
      | (refine VS.region tabOk (id := 13) [] (by kernel_rfl) ?_; generalize hK : VS _ _ _ = KK; simp [hF, hiff]; try subst hK; try (refine VS.keep [3, 4, 5, 6, 7, 12] ?_; generalize hK : VS _ _ _ = KK; simp; try subst hK))
      | (refine VS.region tabOk (id := 14) [] (by kernel_rfl) ?_; generalize hK : VS _ _ _ = KK; simp [hF, hiff]; try subst hK; try (refine VS.keep [3, 4, 5, 6, 7, 12] ?_; generalize hK : VS _ _ _ = KK; simp; try subst hK))
      | (refine VS.region tabOk (id := 15) [] (by kernel_rfl) ?_; generalize hK : VS _ _ _ = KK; simp [hF, hiff]; try subst hK; try (refine VS.keep [3, 4, 5, 6, 7, 12, 13] ?_; generalize hK : VS _ _ _ = KK; simp; try subst hK))
      | (refine VS.region tabOk (id := 16) [] (by kernel_rfl) ?_; generalize hK : VS _ _ _ = KK; simp [hF, hiff]; try subst hK; try (refine VS.keep [3, 4, 5, 6, 7, 12, 76] ?_; generalize hK : VS _ _ _ = KK; simp; try subst hK))
      | (refine VS.region tabOk (id := 17) [] (by kernel_rfl) ?_; generalize hK : VS _ _ _ = KK; simp [hF, hiff]; try subst hK; try (refine VS.keep [2] ?_; generalize hK : VS _ _ _ = KK; simp; try subst hK))
      | (refine VS.region tabOk (id := 18) [] (by kernel_rfl) ?_; generalize hK : VS _ _ _ = KK; simp [hF, hiff]; try subst hK; try (refine VS.keep [3, 4, 14] ?_; generalize hK : VS _ _ _ = KK; simp; try subst hK))
      | (refine VS.region tabOk (id := 19) [] (by kernel_rfl) ?_; generalize hK : VS _ _ _ = KK; simp [hF, hiff]; try subst hK; try (refine VS.keep [3, 4, 14, 78] ?_; generalize hK : VS _ _ _ = KK; simp; try subst hK))
      | (refine VS.region tabOk (id := 20) [] (by kernel_rfl) ?_; generalize hK : VS _ _ _ = KK; simp [hF, hiff]; try subst hK; try (refine VS.keep [3, 4, 14] ?_; generalize hK : VS _ _ _ = KK; simp; try subst hK))
      | (refine VS.region tabOk (id := 21) [] (by kernel_rfl) ?_; generalize hK : VS _ _ _ = KK; simp [hF, hiff]; try subst hK; try (refine VS.keep [3, 4, 14, 15] ?_; generalize hK : VS _ _ _ = KK; simp; try subst hK))
      | (refine VS.region tabOk (id := 22) [] (by kernel_rfl) ?_; generalize hK : VS _ _ _ = KK; simp [hF, hiff]; try subst hK; try (refine VS.keep [3, 4, 14, 15, 17] ?_; generalize hK : VS _ _ _ = KK; simp; try subst hK))
      | (refine VS.region tabOk (id := 23) [] (by kernel_rfl) ?_; generalize hK : VS _ _ _ = KK; simp [hF, hiff]; try subst hK; try (refine VS.keep [3, 4, 14, 95] ?_; generalize hK : VS _ _ _ = KK; simp; try subst hK))
      | (refine VS.region tabOk (id := 24) [] (by kernel_rfl) ?_; generalize hK : VS _ _ _ = KK; simp [hF, hiff]; try subst hK; try (refine VS.keep [2] ?_; generalize hK : VS _ _ _ = KK; simp; try subst hK))
      | (refine VS.region tabOk (id := 25) [(5, 101), (10, 106)] (by kernel_rfl) ?_; generalize hK : VS _ _ _ = KK; simp [hF, hiff]; try subst hK; try (refine VS.keep [2] ?_; generalize hK : VS _ _ _ = KK; simp; try subst hK))
      | (refine VS.cond ?_; generalize hK1 : VS _ _ _ = KK1; generalize hK2 : VS _ _ _ = KK2; simp [hF, hiff]; try subst hK1; try subst hK2)
    refine VS.rounds (fun m' st => ∃ (k : Nat) (S2 : Sp) (at2 : Int), k + m' = 6 ∧ 0 < S2.shapes.length ∧ WF S2 (6 * o + k) ∧ S2.objs.length = min (o + 1) 100 ∧ 0 ≤ at2 ∧
      st = ⟨[(3, .ptr 0 [.d]), (4, .ptr 1 [.d]), (5, .sub 2 [] 0 15 true), (6, .val (.int .u64 at2)), (7, avInt o), (12, avInt k)], [dSp S2, dRSp S2, .sl true () 1 (dStrs lnames)], [], []⟩)
      ⟨6, 0, S1, at_, rfl, hpos1, hwf1, hlen1, hat, by simp [dSp, dRSp]⟩ ?_
    rintro m' st ⟨k, S2, at2, hkm, hpos2, hwf2, hlen2, hat2, rfl⟩
    by_cases hk6 : k < 6
    · have hk6' : (k : Int) < 6 := by omega
      by_cases ho100 : (o : Int) < 100
      · have hat3 := hu (IntKind.u64.wrap (at2 * 1103515245) + 12345)
        have hbits : (16 : Int) ≤ (IntKind.u64.bits : Int) := by simp [IntKind.bits]
        have hq : 0 ≤ (IntKind.u64.wrap (IntKind.u64.wrap (at2 * 1103515245) + 12345) / 65536).tmod 15 ∧ (IntKind.u64.wrap (IntKind.u64.wrap (at2 * 1103515245) + 12345) / 65536).tmod 15 < 15 := by
          have h0 : 0 ≤ IntKind.u64.wrap (IntKind.u64.wrap (at2 * 1103515245) + 12345) / 65536 := Int.ediv_nonneg hat3 (by omega)
          exact ⟨Int.tmod_nonneg _ h0, Int.tmod_lt_of_pos _ (by omega)⟩
        have hw : IntKind.i64.wrap ((IntKind.u64.wrap (IntKind.u64.wrap (at2 * 1103515245) + 12345) / 65536).tmod 15) = (IntKind.u64.wrap (IntKind.u64.wrap (at2 * 1103515245) + 12345) / 65536).tmod 15 := IntWalk.i64_in _ (by omega)
        have hlt3 : ((IntKind.u64.wrap (IntKind.u64.wrap (at2 * 1103515245) + 12345) / 65536).tmod 15).toNat < lnames.length := by
          have : lnames.length = 15 := rfl
          omega
        have hnth := dStrs_nth hlt3
        have hlen15 : lnames.length = 15 := rfl
        have hq1 := hq.1
        have hq2 := hq.2
        have hlt4 : ((IntKind.u64.wrap (IntKind.u64.wrap (at2 * 1103515245) + 12345) / 65536).tmod 15).toNat < 15 := by omega
        generalize hgq : (IntKind.u64.wrap (IntKind.u64.wrap (at2 * 1103515245) + 12345) / 65536).tmod 15 = q at *
        generalize lnames[q.toNat] = nm at *
        obtain ⟨S3, e3, hset⟩ : ∃ S3 e3, setOf S2 o nm k = (S3, e3) := ⟨_, _, rfl⟩
        have hpos3 := setOf_pos hpos2 o nm k
        have hwf3 := setOf_wf hwf2 o nm k
        have hlen3 := setOf_objs S2 o nm k
        rw [hset] at hpos3 hwf3 hlen3
        have hob : WF S2 (6 * o + k) := hwf2
        repeat first
          | refine VS.seq ?_
          | refine VS.skip ?_
          | refine VS.block ?_
          | refine VS.nil ?_
          | refine blockN_normal ?_
          | refine loopN_normal ?_
          | refine VS.exit ?_
          | refine blockN_hit ?_
          | refine blockN_miss (by decide) ?_
          | refine loopN_exit ?_
          | refine ⟨⟨by omega, by omega⟩, ?_⟩
          | (refine VS.region tabOk (id := 0) [] (by kernel_rfl) ?_; generalize hK : VS _ _ _ = KK; simp [hF, hk6', ho100, hgq, hbits, hw, hq1, hq2, hnth, hlen15, hlt4]; try subst hK; try (refine VS.keep [0] ?_; generalize hK : VS _ _ _ = KK; simp; try subst hK))
          | (refine VS.region tabOk (id := 1) [] (by kernel_rfl) ?_; generalize hK : VS _ _ _ = KK; simp [hF, hk6', ho100, hgq, hbits, hw, hq1, hq2, hnth, hlen15, hlt4]; try subst hK; try (refine VS.keep [0, 3, 4] ?_; generalize hK : VS _ _ _ = KK; simp; try subst hK))
          | (refine VS.region tabOk (id := 2) [] (by kernel_rfl) ?_; generalize hK : VS _ _ _ = KK; simp [hF, hk6', ho100, hgq, hbits, hw, hq1, hq2, hnth, hlen15, hlt4]; try subst hK; try (refine VS.keep [0, 3, 4, 5] ?_; generalize hK : VS _ _ _ = KK; simp; try subst hK))
          | (refine VS.region tabOk (id := 3) [] (by kernel_rfl) ?_; generalize hK : VS _ _ _ = KK; simp [hF, hk6', ho100, hgq, hbits, hw, hq1, hq2, hnth, hlen15, hlt4]; try subst hK; try (refine VS.keep [3, 4, 5, 6] ?_; generalize hK : VS _ _ _ = KK; simp; try subst hK))
          | (refine VS.region tabOk (id := 4) [] (by kernel_rfl) ?_; generalize hK : VS _ _ _ = KK; simp [hF, hk6', ho100, hgq, hbits, hw, hq1, hq2, hnth, hlen15, hlt4]; try subst hK; try (refine VS.keep [3, 4, 5, 6, 7] ?_; generalize hK : VS _ _ _ = KK; simp; try subst hK))
          | (refine VS.region tabOk (id := 5) [] (by kernel_rfl) ?_; generalize hK : VS _ _ _ = KK; simp [hF, hk6', ho100, hgq, hbits, hw, hq1, hq2, hnth, hlen15, hlt4]; try subst hK; try (refine VS.keep [3, 4, 5, 6, 7, 25] ?_; generalize hK : VS _ _ _ = KK; simp; try subst hK))
          | (refine VS.region tabOk (id := 6) [] (by kernel_rfl) ?_; generalize hK : VS _ _ _ = KK; simp [hF, hk6', ho100, hgq, hbits, hw, hq1, hq2, hnth, hlen15, hlt4]; try subst hK; try (refine VS.keep [3, 4, 5, 6, 7] ?_; generalize hK : VS _ _ _ = KK; simp; try subst hK))
          | (refine VS.region tabOk (id := 7) [] (by kernel_rfl) ?_; generalize hK : VS _ _ _ = KK; simp [hF, hk6', ho100, hgq, hbits, hw, hq1, hq2, hnth, hlen15, hlt4]; try subst hK; try (refine VS.keep [3, 4, 5, 6, 7, 9] ?_; generalize hK : VS _ _ _ = KK; simp; try subst hK))
          | (refine VS.region tabOk (id := 8) [] (by kernel_rfl) ?_; generalize hK : VS _ _ _ = KK; simp [hF, hk6', ho100, hgq, hbits, hw, hq1, hq2, hnth, hlen15, hlt4]; try subst hK; try (refine VS.keep [3, 4, 5, 6, 7, 9, 11] ?_; generalize hK : VS _ _ _ = KK; simp; try subst hK))
          | (refine VS.region tabOk (id := 9) [(3, 41)] (by kernel_rfl) ?_; generalize hK : VS _ _ _ = KK; simp [hF, hk6', ho100, hgq, hbits, hw, hq1, hq2, hnth, hlen15, hlt4]; try subst hK; try (refine VS.keep [3, 4, 5, 6, 7, 47] ?_; generalize hK : VS _ _ _ = KK; simp; try subst hK))
          | (refine VS.region tabOk (id := 10) [] (by kernel_rfl) ?_; generalize hK : VS _ _ _ = KK; simp [hF, hk6', ho100, hgq, hbits, hw, hq1, hq2, hnth, hlen15, hlt4]; try subst hK; try (refine VS.keep [2] ?_; generalize hK : VS _ _ _ = KK; simp; try subst hK))
          | (refine VS.region tabOk (id := 11) [] (by kernel_rfl) ?_; generalize hK : VS _ _ _ = KK; simp [hF, hk6', ho100, hgq, hbits, hw, hq1, hq2, hnth, hlen15, hlt4]; try subst hK; try (refine VS.keep [3, 4, 5, 6, 7, 12] ?_; generalize hK : VS _ _ _ = KK; simp; try subst hK))
          | (refine VS.region tabOk (id := 12) [(2, 50)] (by kernel_rfl) ?_; generalize hK : VS _ _ _ = KK; simp [hF, hk6', ho100, hgq, hbits, hw, hq1, hq2, hnth, hlen15, hlt4]; try subst hK; try (refine VS.keep [3, 4, 5, 6, 7, 12, 53] ?_; generalize hK : VS _ _ _ = KK; simp; try subst hK))
          | (refine VS.region tabOk (id := 13) [] (by kernel_rfl) ?_; generalize hK : VS _ _ _ = KK; simp [hF, hk6', ho100, hgq, hbits, hw, hq1, hq2, hnth, hlen15, hlt4]; try subst hK; try (refine VS.keep [3, 4, 5, 6, 7, 12] ?_; generalize hK : VS _ _ _ = KK; simp; try subst hK))
          | (refine VS.region tabOk (id := 14) [] (by kernel_rfl) ?_; generalize hK : VS _ _ _ = KK; simp [hF, hk6', ho100, hgq, hbits, hw, hq1, hq2, hnth, hlen15, hlt4]; try subst hK; try (refine VS.keep [3, 4, 5, 6, 7, 12] ?_; generalize hK : VS _ _ _ = KK; simp; try subst hK))
          | (refine VS.region tabOk (id := 15) [] (by kernel_rfl) ?_; generalize hK : VS _ _ _ = KK; simp [hF, hk6', ho100, hgq, hbits, hw, hq1, hq2, hnth, hlen15, hlt4]; try subst hK; try (refine VS.keep [3, 4, 5, 6, 7, 12, 13] ?_; generalize hK : VS _ _ _ = KK; simp; try subst hK))
          | (refine VS.region tabOk (id := 16) [] (by kernel_rfl) ?_; generalize hK : VS _ _ _ = KK; simp [hF, hk6', ho100, hgq, hbits, hw, hq1, hq2, hnth, hlen15, hlt4]; try subst hK; try (refine VS.keep [3, 4, 5, 6, 7, 12, 76] ?_; generalize hK : VS _ _ _ = KK; simp; try subst hK))
          | (refine VS.region tabOk (id := 17) [] (by kernel_rfl) ?_; generalize hK : VS _ _ _ = KK; simp [hF, hk6', ho100, hgq, hbits, hw, hq1, hq2, hnth, hlen15, hlt4]; try subst hK; try (refine VS.keep [2] ?_; generalize hK : VS _ _ _ = KK; simp; try subst hK))
          | (refine VS.region tabOk (id := 18) [] (by kernel_rfl) ?_; generalize hK : VS _ _ _ = KK; simp [hF, hk6', ho100, hgq, hbits, hw, hq1, hq2, hnth, hlen15, hlt4]; try subst hK; try (refine VS.keep [3, 4, 14] ?_; generalize hK : VS _ _ _ = KK; simp; try subst hK))
          | (refine VS.region tabOk (id := 19) [] (by kernel_rfl) ?_; generalize hK : VS _ _ _ = KK; simp [hF, hk6', ho100, hgq, hbits, hw, hq1, hq2, hnth, hlen15, hlt4]; try subst hK; try (refine VS.keep [3, 4, 14, 78] ?_; generalize hK : VS _ _ _ = KK; simp; try subst hK))
          | (refine VS.region tabOk (id := 20) [] (by kernel_rfl) ?_; generalize hK : VS _ _ _ = KK; simp [hF, hk6', ho100, hgq, hbits, hw, hq1, hq2, hnth, hlen15, hlt4]; try subst hK; try (refine VS.keep [3, 4, 14] ?_; generalize hK : VS _ _ _ = KK; simp; try subst hK))
          | (refine VS.region tabOk (id := 21) [] (by kernel_rfl) ?_; generalize hK : VS _ _ _ = KK; simp [hF, hk6', ho100, hgq, hbits, hw, hq1, hq2, hnth, hlen15, hlt4]; try subst hK; try (refine VS.keep [3, 4, 14, 15] ?_; generalize hK : VS _ _ _ = KK; simp; try subst hK))
          | (refine VS.region tabOk (id := 22) [] (by kernel_rfl) ?_; generalize hK : VS _ _ _ = KK; simp [hF, hk6', ho100, hgq, hbits, hw, hq1, hq2, hnth, hlen15, hlt4]; try subst hK; try (refine VS.keep [3, 4, 14, 15, 17] ?_; generalize hK : VS _ _ _ = KK; simp; try subst hK))
          | (refine VS.region tabOk (id := 23) [] (by kernel_rfl) ?_; generalize hK : VS _ _ _ = KK; simp [hF, hk6', ho100, hgq, hbits, hw, hq1, hq2, hnth, hlen15, hlt4]; try subst hK; try (refine VS.keep [3, 4, 14, 95] ?_; generalize hK : VS _ _ _ = KK; simp; try subst hK))
          | (refine VS.region tabOk (id := 24) [] (by kernel_rfl) ?_; generalize hK : VS _ _ _ = KK; simp [hF, hk6', ho100, hgq, hbits, hw, hq1, hq2, hnth, hlen15, hlt4]; try subst hK; try (refine VS.keep [2] ?_; generalize hK : VS _ _ _ = KK; simp; try subst hK))
          | (refine VS.region tabOk (id := 25) [(5, 101), (10, 106)] (by kernel_rfl) ?_; generalize hK : VS _ _ _ = KK; simp [hF, hk6', ho100, hgq, hbits, hw, hq1, hq2, hnth, hlen15, hlt4]; try subst hK; try (refine VS.keep [2] ?_; generalize hK : VS _ _ _ = KK; simp; try subst hK))
          | (refine VS.cond ?_; generalize hK1 : VS _ _ _ = KK1; generalize hK2 : VS _ _ _ = KK2; simp [hF, hk6', ho100, hgq, hbits, hw, hq1, hq2, hnth, hlen15, hlt4]; try subst hK1; try subst hK2)
        refine (set_ok S2 hwf2 (by omega) o nm k).call [(0, [])] (by simp) (by simp [hF, hset, dSp]) (by simp [hF, hset, dSp]) (by simp [hF, hset, dSp]) ?_
        rintro av X κ ⟨rfl, rfl, rfl⟩
        generalize hK : VS _ _ _ = KK; simp [hF, hset, dSp]; try subst hK
        repeat first
          | refine VS.seq ?_
          | refine VS.skip ?_
          | refine VS.block ?_
          | refine VS.nil ?_
          | refine blockN_normal ?_
          | refine loopN_normal ?_
          | refine VS.exit ?_
          | refine blockN_hit ?_
          | refine blockN_miss (by decide) ?_
          | refine loopN_exit ?_
          | refine ⟨⟨by omega, by omega⟩, ?_⟩
          | (refine VS.region tabOk (id := 0) [] (by kernel_rfl) ?_; generalize hK : VS _ _ _ = KK; simp [hF]; try subst hK; try (refine VS.keep [0] ?_; generalize hK : VS _ _ _ = KK; simp; try subst hK))
          | (refine VS.region tabOk (id := 1) [] (by kernel_rfl) ?_; generalize hK : VS _ _ _ = KK; simp [hF]; try subst hK; try (refine VS.keep [0, 3, 4] ?_; generalize hK : VS _ _ _ = KK; simp; try subst hK))
          | (refine VS.region tabOk (id := 2) [] (by kernel_rfl) ?_; generalize hK : VS _ _ _ = KK; simp [hF]; try subst hK; try (refine VS.keep [0, 3, 4, 5] ?_; generalize hK : VS _ _ _ = KK; simp; try subst hK))
          | (refine VS.region tabOk (id := 3) [] (by kernel_rfl) ?_; generalize hK : VS _ _ _ = KK; simp [hF]; try subst hK; try (refine VS.keep [3, 4, 5, 6] ?_; generalize hK : VS _ _ _ = KK; simp; try subst hK))
          | (refine VS.region tabOk (id := 4) [] (by kernel_rfl) ?_; generalize hK : VS _ _ _ = KK; simp [hF]; try subst hK; try (refine VS.keep [3, 4, 5, 6, 7] ?_; generalize hK : VS _ _ _ = KK; simp; try subst hK))
          | (refine VS.region tabOk (id := 5) [] (by kernel_rfl) ?_; generalize hK : VS _ _ _ = KK; simp [hF]; try subst hK; try (refine VS.keep [3, 4, 5, 6, 7, 25] ?_; generalize hK : VS _ _ _ = KK; simp; try subst hK))
          | (refine VS.region tabOk (id := 6) [] (by kernel_rfl) ?_; generalize hK : VS _ _ _ = KK; simp [hF]; try subst hK; try (refine VS.keep [3, 4, 5, 6, 7] ?_; generalize hK : VS _ _ _ = KK; simp; try subst hK))
          | (refine VS.region tabOk (id := 7) [] (by kernel_rfl) ?_; generalize hK : VS _ _ _ = KK; simp [hF]; try subst hK; try (refine VS.keep [3, 4, 5, 6, 7, 9] ?_; generalize hK : VS _ _ _ = KK; simp; try subst hK))
          | (refine VS.region tabOk (id := 8) [] (by kernel_rfl) ?_; generalize hK : VS _ _ _ = KK; simp [hF]; try subst hK; try (refine VS.keep [3, 4, 5, 6, 7, 9, 11] ?_; generalize hK : VS _ _ _ = KK; simp; try subst hK))
          | (refine VS.region tabOk (id := 9) [(3, 41)] (by kernel_rfl) ?_; generalize hK : VS _ _ _ = KK; simp [hF]; try subst hK; try (refine VS.keep [3, 4, 5, 6, 7, 47] ?_; generalize hK : VS _ _ _ = KK; simp; try subst hK))
          | (refine VS.region tabOk (id := 10) [] (by kernel_rfl) ?_; generalize hK : VS _ _ _ = KK; simp [hF]; try subst hK; try (refine VS.keep [2] ?_; generalize hK : VS _ _ _ = KK; simp; try subst hK))
          | (refine VS.region tabOk (id := 11) [] (by kernel_rfl) ?_; generalize hK : VS _ _ _ = KK; simp [hF]; try subst hK; try (refine VS.keep [3, 4, 5, 6, 7, 12] ?_; generalize hK : VS _ _ _ = KK; simp; try subst hK))
          | (refine VS.region tabOk (id := 12) [(2, 50)] (by kernel_rfl) ?_; generalize hK : VS _ _ _ = KK; simp [hF]; try subst hK; try (refine VS.keep [3, 4, 5, 6, 7, 12, 53] ?_; generalize hK : VS _ _ _ = KK; simp; try subst hK))
          | (refine VS.region tabOk (id := 13) [] (by kernel_rfl) ?_; generalize hK : VS _ _ _ = KK; simp [hF]; try subst hK; try (refine VS.keep [3, 4, 5, 6, 7, 12] ?_; generalize hK : VS _ _ _ = KK; simp; try subst hK))
          | (refine VS.region tabOk (id := 14) [] (by kernel_rfl) ?_; generalize hK : VS _ _ _ = KK; simp [hF]; try subst hK; try (refine VS.keep [3, 4, 5, 6, 7, 12] ?_; generalize hK : VS _ _ _ = KK; simp; try subst hK))
          | (refine VS.region tabOk (id := 15) [] (by kernel_rfl) ?_; generalize hK : VS _ _ _ = KK; simp [hF]; try subst hK; try (refine VS.keep [3, 4, 5, 6, 7, 12, 13] ?_; generalize hK : VS _ _ _ = KK; simp; try subst hK))
          | (refine VS.region tabOk (id := 16) [] (by kernel_rfl) ?_; generalize hK : VS _ _ _ = KK; simp [hF]; try subst hK; try (refine VS.keep [3, 4, 5, 6, 7, 12, 76] ?_; generalize hK : VS _ _ _ = KK; simp; try subst hK))
          | (refine VS.region tabOk (id := 17) [] (by kernel_rfl) ?_; generalize hK : VS _ _ _ = KK; simp [hF]; try subst hK; try (refine VS.keep [2] ?_; generalize hK : VS _ _ _ = KK; simp; try subst hK))
          | (refine VS.region tabOk (id := 18) [] (by kernel_rfl) ?_; generalize hK : VS _ _ _ = KK; simp [hF]; try subst hK; try (refine VS.keep [3, 4, 14] ?_; generalize hK : VS _ _ _ = KK; simp; try subst hK))
          | (refine VS.region tabOk (id := 19) [] (by kernel_rfl) ?_; generalize hK : VS _ _ _ = KK; simp [hF]; try subst hK; try (refine VS.keep [3, 4, 14, 78] ?_; generalize hK : VS _ _ _ = KK; simp; try subst hK))
          | (refine VS.region tabOk (id := 20) [] (by kernel_rfl) ?_; generalize hK : VS _ _ _ = KK; simp [hF]; try subst hK; try (refine VS.keep [3, 4, 14] ?_; generalize hK : VS _ _ _ = KK; simp; try subst hK))
          | (refine VS.region tabOk (id := 21) [] (by kernel_rfl) ?_; generalize hK : VS _ _ _ = KK; simp [hF]; try subst hK; try (refine VS.keep [3, 4, 14, 15] ?_; generalize hK : VS _ _ _ = KK; simp; try subst hK))
          | (refine VS.region tabOk (id := 22) [] (by kernel_rfl) ?_; generalize hK : VS _ _ _ = KK; simp [hF]; try subst hK; try (refine VS.keep [3, 4, 14, 15, 17] ?_; generalize hK : VS _ _ _ = KK; simp; try subst hK))
          | (refine VS.region tabOk (id := 23) [] (by kernel_rfl) ?_; generalize hK : VS _ _ _ = KK; simp [hF]; try subst hK; try (refine VS.keep [3, 4, 14, 95] ?_; generalize hK : VS _ _ _ = KK; simp; try subst hK))
          | (refine VS.region tabOk (id := 24) [] (by kernel_rfl) ?_; generalize hK : VS _ _ _ = KK; simp [hF]; try subst hK; try (refine VS.keep [2] ?_; generalize hK : VS _ _ _ = KK; simp; try subst hK))
          | (refine VS.region tabOk (id := 25) [(5, 101), (10, 106)] (by kernel_rfl) ?_; generalize hK : VS _ _ _ = KK; simp [hF]; try subst hK; try (refine VS.keep [2] ?_; generalize hK : VS _ _ _ = KK; simp; try subst hK))
          | (refine VS.cond ?_; generalize hK1 : VS _ _ _ = KK1; generalize hK2 : VS _ _ _ = KK2; simp [hF]; try subst hK1; try subst hK2)
        refine (rset_ok S2 hpos2 hwf2 (by omega) o nm k).call [(1, [])] (by simp) (by simp [hF, hset, dRSp]) (by simp [hF, hset, dRSp]) (by simp [hF, hset, dRSp]) ?_
        rintro av X κ ⟨rfl, rfl, rfl⟩
        generalize hK : VS _ _ _ = KK; simp [hF, hset, dRSp]; try subst hK
        repeat first
          | refine VS.seq ?_
          | refine VS.skip ?_
          | refine VS.block ?_
          | refine VS.nil ?_
          | refine blockN_normal ?_
          | refine loopN_normal ?_
          | refine VS.exit ?_
          | refine blockN_hit ?_
          | refine blockN_miss (by decide) ?_
          | refine loopN_exit ?_
          | refine ⟨⟨by omega, by omega⟩, ?_⟩
          | (refine VS.region tabOk (id := 0) [] (by kernel_rfl) ?_; generalize hK : VS _ _ _ = KK; simp [hF]; try subst hK; try (refine VS.keep [0] ?_; generalize hK : VS _ _ _ = KK; simp; try subst hK))
          | (refine VS.region tabOk (id := 1) [] (by kernel_rfl) ?_; generalize hK : VS _ _ _ = KK; simp [hF]; try subst hK; try (refine VS.keep [0, 3, 4] ?_; generalize hK : VS _ _ _ = KK; simp; try subst hK))
          | (refine VS.region tabOk (id := 2) [] (by kernel_rfl) ?_; generalize hK : VS _ _ _ = KK; simp [hF]; try subst hK; try (refine VS.keep [0, 3, 4, 5] ?_; generalize hK : VS _ _ _ = KK; simp; try subst hK))
          | (refine VS.region tabOk (id := 3) [] (by kernel_rfl) ?_; generalize hK : VS _ _ _ = KK; simp [hF]; try subst hK; try (refine VS.keep [3, 4, 5, 6] ?_; generalize hK : VS _ _ _ = KK; simp; try subst hK))
          | (refine VS.region tabOk (id := 4) [] (by kernel_rfl) ?_; generalize hK : VS _ _ _ = KK; simp [hF]; try subst hK; try (refine VS.keep [3, 4, 5, 6, 7] ?_; generalize hK : VS _ _ _ = KK; simp; try subst hK))
          | (refine VS.region tabOk (id := 5) [] (by kernel_rfl) ?_; generalize hK : VS _ _ _ = KK; simp [hF]; try subst hK; try (refine VS.keep [3, 4, 5, 6, 7, 25] ?_; generalize hK : VS _ _ _ = KK; simp; try subst hK))
          | (refine VS.region tabOk (id := 6) [] (by kernel_rfl) ?_; generalize hK : VS _ _ _ = KK; simp [hF]; try subst hK; try (refine VS.keep [3, 4, 5, 6, 7] ?_; generalize hK : VS _ _ _ = KK; simp; try subst hK))
          | (refine VS.region tabOk (id := 7) [] (by kernel_rfl) ?_; generalize hK : VS _ _ _ = KK; simp [hF]; try subst hK; try (refine VS.keep [3, 4, 5, 6, 7, 9] ?_; generalize hK : VS _ _ _ = KK; simp; try subst hK))
          | (refine VS.region tabOk (id := 8) [] (by kernel_rfl) ?_; generalize hK : VS _ _ _ = KK; simp [hF]; try subst hK; try (refine VS.keep [3, 4, 5, 6, 7, 9, 11] ?_; generalize hK : VS _ _ _ = KK; simp; try subst hK))
          | (refine VS.region tabOk (id := 9) [(3, 41)] (by kernel_rfl) ?_; generalize hK : VS _ _ _ = KK; simp [hF]; try subst hK; try (refine VS.keep [3, 4, 5, 6, 7, 47] ?_; generalize hK : VS _ _ _ = KK; simp; try subst hK))
          | (refine VS.region tabOk (id := 10) [] (by kernel_rfl) ?_; generalize hK : VS _ _ _ = KK; simp [hF]; try subst hK; try (refine VS.keep [2] ?_; generalize hK : VS _ _ _ = KK; simp; try subst hK))
          | (refine VS.region tabOk (id := 11) [] (by kernel_rfl) ?_; generalize hK : VS _ _ _ = KK; simp [hF]; try subst hK; try (refine VS.keep [3, 4, 5, 6, 7, 12] ?_; generalize hK : VS _ _ _ = KK; simp; try subst hK))
          | (refine VS.region tabOk (id := 12) [(2, 50)] (by kernel_rfl) ?_; generalize hK : VS _ _ _ = KK; simp [hF]; try subst hK; try (refine VS.keep [3, 4, 5, 6, 7, 12, 53] ?_; generalize hK : VS _ _ _ = KK; simp; try subst hK))
          | (refine VS.region tabOk (id := 13) [] (by kernel_rfl) ?_; generalize hK : VS _ _ _ = KK; simp [hF]; try subst hK; try (refine VS.keep [3, 4, 5, 6, 7, 12] ?_; generalize hK : VS _ _ _ = KK; simp; try subst hK))
          | (refine VS.region tabOk (id := 14) [] (by kernel_rfl) ?_; generalize hK : VS _ _ _ = KK; simp [hF]; try subst hK; try (refine VS.keep [3, 4, 5, 6, 7, 12] ?_; generalize hK : VS _ _ _ = KK; simp; try subst hK))
          | (refine VS.region tabOk (id := 15) [] (by kernel_rfl) ?_; generalize hK : VS _ _ _ = KK; simp [hF]; try subst hK; try (refine VS.keep [3, 4, 5, 6, 7, 12, 13] ?_; generalize hK : VS _ _ _ = KK; simp; try subst hK))
          | (refine VS.region tabOk (id := 16) [] (by kernel_rfl) ?_; generalize hK : VS _ _ _ = KK; simp [hF]; try subst hK; try (refine VS.keep [3, 4, 5, 6, 7, 12, 76] ?_; generalize hK : VS _ _ _ = KK; simp; try subst hK))
          | (refine VS.region tabOk (id := 17) [] (by kernel_rfl) ?_; generalize hK : VS _ _ _ = KK; simp [hF]; try subst hK; try (refine VS.keep [2] ?_; generalize hK : VS _ _ _ = KK; simp; try subst hK))
          | (refine VS.region tabOk (id := 18) [] (by kernel_rfl) ?_; generalize hK : VS _ _ _ = KK; simp [hF]; try subst hK; try (refine VS.keep [3, 4, 14] ?_; generalize hK : VS _ _ _ = KK; simp; try subst hK))
          | (refine VS.region tabOk (id := 19) [] (by kernel_rfl) ?_; generalize hK : VS _ _ _ = KK; simp [hF]; try subst hK; try (refine VS.keep [3, 4, 14, 78] ?_; generalize hK : VS _ _ _ = KK; simp; try subst hK))
          | (refine VS.region tabOk (id := 20) [] (by kernel_rfl) ?_; generalize hK : VS _ _ _ = KK; simp [hF]; try subst hK; try (refine VS.keep [3, 4, 14] ?_; generalize hK : VS _ _ _ = KK; simp; try subst hK))
          | (refine VS.region tabOk (id := 21) [] (by kernel_rfl) ?_; generalize hK : VS _ _ _ = KK; simp [hF]; try subst hK; try (refine VS.keep [3, 4, 14, 15] ?_; generalize hK : VS _ _ _ = KK; simp; try subst hK))
          | (refine VS.region tabOk (id := 22) [] (by kernel_rfl) ?_; generalize hK : VS _ _ _ = KK; simp [hF]; try subst hK; try (refine VS.keep [3, 4, 14, 15, 17] ?_; generalize hK : VS _ _ _ = KK; simp; try subst hK))
          | (refine VS.region tabOk (id := 23) [] (by kernel_rfl) ?_; generalize hK : VS _ _ _ = KK; simp [hF]; try subst hK; try (refine VS.keep [3, 4, 14, 95] ?_; generalize hK : VS _ _ _ = KK; simp; try subst hK))
          | (refine VS.region tabOk (id := 24) [] (by kernel_rfl) ?_; generalize hK : VS _ _ _ = KK; simp [hF]; try subst hK; try (refine VS.keep [2] ?_; generalize hK : VS _ _ _ = KK; simp; try subst hK))
          | (refine VS.region tabOk (id := 25) [(5, 101), (10, 106)] (by kernel_rfl) ?_; generalize hK : VS _ _ _ = KK; simp [hF]; try subst hK; try (refine VS.keep [2] ?_; generalize hK : VS _ _ _ = KK; simp; try subst hK))
          | (refine VS.cond ?_; generalize hK1 : VS _ _ _ = KK1; generalize hK2 : VS _ _ _ = KK2; simp [hF]; try subst hK1; try subst hK2)
        refine nextK.of [3, 4, 5, 6, 7, 12] [0, 1, 2] (m' - 1) (by omega) (by simp [hF]) ?_
        refine ⟨k + 1, S3, _, by omega, hpos3, hwf3, by simpa [hlen3] using hlen2, hat3, ?_⟩
        simp [dSp, dRSp]
        exact IntWalk.i64_in _ (by omega)
      · have ho100' : (100 : Int) ≤ o := by omega
        repeat first
          | refine VS.seq ?_
          | refine VS.skip ?_
          | refine VS.block ?_
          | refine VS.nil ?_
          | refine blockN_normal ?_
          | refine loopN_normal ?_
          | refine VS.exit ?_
          | refine blockN_hit ?_
          | refine blockN_miss (by decide) ?_
          | refine loopN_exit ?_
          | refine ⟨⟨by omega, by omega⟩, ?_⟩
          | (refine VS.region tabOk (id := 0) [] (by kernel_rfl) ?_; generalize hK : VS _ _ _ = KK; simp [hF, hk6', ho100, ho100']; try subst hK; try (refine VS.keep [0] ?_; generalize hK : VS _ _ _ = KK; simp; try subst hK))
          | (refine VS.region tabOk (id := 1) [] (by kernel_rfl) ?_; generalize hK : VS _ _ _ = KK; simp [hF, hk6', ho100, ho100']; try subst hK; try (refine VS.keep [0, 3, 4] ?_; generalize hK : VS _ _ _ = KK; simp; try subst hK))
          | (refine VS.region tabOk (id := 2) [] (by kernel_rfl) ?_; generalize hK : VS _ _ _ = KK; simp [hF, hk6', ho100, ho100']; try subst hK; try (refine VS.keep [0, 3, 4, 5] ?_; generalize hK : VS _ _ _ = KK; simp; try subst hK))
          | (refine VS.region tabOk (id := 3) [] (by kernel_rfl) ?_; generalize hK : VS _ _ _ = KK; simp [hF, hk6', ho100, ho100']; try subst hK; try (refine VS.keep [3, 4, 5, 6] ?_; generalize hK : VS _ _ _ = KK; simp; try subst hK))
          | (refine VS.region tabOk (id := 4) [] (by kernel_rfl) ?_; generalize hK : VS _ _ _ = KK; simp [hF, hk6', ho100, ho100']; try subst hK; try (refine VS.keep [3, 4, 5, 6, 7] ?_; generalize hK : VS _ _ _ = KK; simp; try subst hK))
          | (refine VS.region tabOk (id := 5) [] (by kernel_rfl) ?_; generalize hK : VS _ _ _ = KK; simp [hF, hk6', ho100, ho100']; try subst hK; try (refine VS.keep [3, 4, 5, 6, 7, 25] ?_; generalize hK : VS _ _ _ = KK; simp; try subst hK))
          | (refine VS.region tabOk (id := 6) [] (by kernel_rfl) ?_; generalize hK : VS _ _ _ = KK; simp [hF, hk6', ho100, ho100']; try subst hK; try (refine VS.keep [3, 4, 5, 6, 7] ?_; generalize hK : VS _ _ _ = KK; simp; try subst hK))
          | (refine VS.region tabOk (id := 7) [] (by kernel_rfl) ?_; generalize hK : VS _ _ _ = KK; simp [hF, hk6', ho100, ho100']; try subst hK; try (refine VS.keep [3, 4, 5, 6, 7, 9] ?_; generalize hK : VS _ _ _ = KK; simp; try subst hK))
          | (refine VS.region tabOk (id := 8) [] (by kernel_rfl) ?_; generalize hK : VS _ _ _ = KK; simp [hF, hk6', ho100, ho100']; try subst hK; try (refine VS.keep [3, 4, 5, 6, 7, 9, 11] ?_; generalize hK : VS _ _ _ = KK; simp; try subst hK))
          | (refine VS.region tabOk (id := 9) [(3, 41)] (by kernel_rfl) ?_; generalize hK : VS _ _ _ = KK; simp [hF, hk6', ho100, ho100']; try subst hK; try (refine VS.keep [3, 4, 5, 6, 7, 47] ?_; generalize hK : VS _ _ _ = KK; simp; try subst hK))
          | (refine VS.region tabOk (id := 10) [] (by kernel_rfl) ?_; generalize hK : VS _ _ _ = KK; simp [hF, hk6', ho100, ho100']; try subst hK; try (refine VS.keep [2] ?_; generalize hK : VS _ _ _ = KK; simp; try subst hK))
          | (refine VS.region tabOk (id := 11) [] (by kernel_rfl) ?_; generalize hK : VS _ _ _ = KK; simp [hF, hk6', ho100, ho100']; try subst hK; try (refine VS.keep [3, 4, 5, 6, 7, 12] ?_; generalize hK : VS _ _ _ = KK; simp; try subst hK))
          | (refine VS.region tabOk (id := 12) [(2, 50)] (by kernel_rfl) ?_; generalize hK : VS _ _ _ = KK; simp [hF, hk6', ho100, ho100']; try subst hK; try (refine VS.keep [3, 4, 5, 6, 7, 12, 53] ?_; generalize hK : VS _ _ _ = KK; simp; try subst hK))
          | (refine VS.region tabOk (id := 13) [] (by kernel_rfl) ?_; generalize hK : VS _ _ _ = KK; simp [hF, hk6', ho100, ho100']; try subst hK; try (refine VS.keep [3, 4, 5, 6, 7, 12] ?_; generalize hK : VS _ _ _ = KK; simp; try subst hK))
          | (refine VS.region tabOk (id := 14) [] (by kernel_rfl) ?_; generalize hK : VS _ _ _ = KK; simp [hF, hk6', ho100, ho100']; try subst hK; try (refine VS.keep [3, 4, 5, 6, 7, 12] ?_; generalize hK : VS _ _ _ = KK; simp; try subst hK))
          | (refine VS.region tabOk (id := 15) [] (by kernel_rfl) ?_; generalize hK : VS _ _ _ = KK; simp [hF, hk6', ho100, ho100']; try subst hK; try (refine VS.keep [3, 4, 5, 6, 7, 12, 13] ?_; generalize hK : VS _ _ _ = KK; simp; try subst hK))
          | (refine VS.region tabOk (id := 16) [] (by kernel_rfl) ?_; generalize hK : VS _ _ _ = KK; simp [hF, hk6', ho100, ho100']; try subst hK; try (refine VS.keep [3, 4, 5, 6, 7, 12, 76] ?_; generalize hK : VS _ _ _ = KK; simp; try subst hK))
          | (refine VS.region tabOk (id := 17) [] (by kernel_rfl) ?_; generalize hK : VS _ _ _ = KK; simp [hF, hk6', ho100, ho100']; try subst hK; try (refine VS.keep [2] ?_; generalize hK : VS _ _ _ = KK; simp; try subst hK))
          | (refine VS.region tabOk (id := 18) [] (by kernel_rfl) ?_; generalize hK : VS _ _ _ = KK; simp [hF, hk6', ho100, ho100']; try subst hK; try (refine VS.keep [3, 4, 14] ?_; generalize hK : VS _ _ _ = KK; simp; try subst hK))
          | (refine VS.region tabOk (id := 19) [] (by kernel_rfl) ?_; generalize hK : VS _ _ _ = KK; simp [hF, hk6', ho100, ho100']; try subst hK; try (refine VS.keep [3, 4, 14, 78] ?_; generalize hK : VS _ _ _ = KK; simp; try subst hK))
          | (refine VS.region tabOk (id := 20) [] (by kernel_rfl) ?_; generalize hK : VS _ _ _ = KK; simp [hF, hk6', ho100, ho100']; try subst hK; try (refine VS.keep [3, 4, 14] ?_; generalize hK : VS _ _ _ = KK; simp; try subst hK))
          | (refine VS.region tabOk (id := 21) [] (by kernel_rfl) ?_; generalize hK : VS _ _ _ = KK; simp [hF, hk6', ho100, ho100']; try subst hK; try (refine VS.keep [3, 4, 14, 15] ?_; generalize hK : VS _ _ _ = KK; simp; try subst hK))
          | (refine VS.region tabOk (id := 22) [] (by kernel_rfl) ?_; generalize hK : VS _ _ _ = KK; simp [hF, hk6', ho100, ho100']; try subst hK; try (refine VS.keep [3, 4, 14, 15, 17] ?_; generalize hK : VS _ _ _ = KK; simp; try subst hK))
          | (refine VS.region tabOk (id := 23) [] (by kernel_rfl) ?_; generalize hK : VS _ _ _ = KK; simp [hF, hk6', ho100, ho100']; try subst hK; try (refine VS.keep [3, 4, 14, 95] ?_; generalize hK : VS _ _ _ = KK; simp; try subst hK))
          | (refine VS.region tabOk (id := 24) [] (by kernel_rfl) ?_; generalize hK : VS _ _ _ = KK; simp [hF, hk6', ho100, ho100']; try subst hK; try (refine VS.keep [2] ?_; generalize hK : VS _ _ _ = KK; simp; try subst hK))
          | (refine VS.region tabOk (id := 25) [(5, 101), (10, 106)] (by kernel_rfl) ?_; generalize hK : VS _ _ _ = KK; simp [hF, hk6', ho100, ho100']; try subst hK; try (refine VS.keep [2] ?_; generalize hK : VS _ _ _ = KK; simp; try subst hK))
          | (refine VS.cond ?_; generalize hK1 : VS _ _ _ = KK1; generalize hK2 : VS _ _ _ = KK2; simp [hF, hk6', ho100, ho100']; try subst hK1; try subst hK2)
        refine nextK.of [3, 4, 5, 6, 7] [0, 1, 2] (m - 1) (by omega) (by simp [hF]) ?_
        refine ⟨o + 1, S2, at2, by omega, hpos2, hwf2.mono (by omega), hlen2, hat2, ?_⟩
        simp
        exact IntWalk.i64_in _ (by omega)
    · have hk6' : ¬ (k : Int) < 6 := by omega
      have hk6'' : (6 : Int) ≤ k := by omega
      repeat first
        | refine VS.seq ?_
        | refine VS.skip ?_
        | refine VS.block ?_
        | refine VS.nil ?_
        | refine blockN_normal ?_
        | refine loopN_normal ?_
        | refine VS.exit ?_
        | refine blockN_hit ?_
        | refine blockN_miss (by decide) ?_
        | refine loopN_exit ?_
        | refine ⟨⟨by omega, by omega⟩, ?_⟩
        | (refine VS.region tabOk (id := 0) [] (by kernel_rfl) ?_; generalize hK : VS _ _ _ = KK; simp [hF, hk6', hk6'']; try subst hK; try (refine VS.keep [0] ?_; generalize hK : VS _ _ _ = KK; simp; try subst hK))
        | (refine VS.region tabOk (id := 1) [] (by kernel_rfl) ?_; generalize hK : VS _ _ _ = KK; simp [hF, hk6', hk6'']; try subst hK; try (refine VS.keep [0, 3, 4] ?_; generalize hK : VS _ _ _ = KK; simp; try subst hK))
        | (refine VS.region tabOk (id := 2) [] (by kernel_rfl) ?_; generalize hK : VS _ _ _ = KK; simp [hF, hk6', hk6'']; try subst hK; try (refine VS.keep [0, 3, 4, 5] ?_; generalize hK : VS _ _ _ = KK; simp; try subst hK))
        | (refine VS.region tabOk (id := 3) [] (by kernel_rfl) ?_; generalize hK : VS _ _ _ = KK; simp [hF, hk6', hk6'']; try subst hK; try (refine VS.keep [3, 4, 5, 6] ?_; generalize hK : VS _ _ _ = KK; simp; try subst hK))
        | (refine VS.region tabOk (id := 4) [] (by kernel_rfl) ?_; generalize hK : VS _ _ _ = KK; simp [hF, hk6', hk6'']; try subst hK; try (refine VS.keep [3, 4, 5, 6, 7] ?_; generalize hK : VS _ _ _ = KK; simp; try subst hK))
        | (refine VS.region tabOk (id := 5) [] (by kernel_rfl) ?_; generalize hK : VS _ _ _ = KK; simp [hF, hk6', hk6'']; try subst hK; try (refine VS.keep [3, 4, 5, 6, 7, 25] ?_; generalize hK : VS _ _ _ = KK; simp; try subst hK))
        | (refine VS.region tabOk (id := 6) [] (by kernel_rfl) ?_; generalize hK : VS _ _ _ = KK; simp [hF, hk6', hk6'']; try subst hK; try (refine VS.keep [3, 4, 5, 6, 7] ?_; generalize hK : VS _ _ _ = KK; simp; try subst hK))
        | (refine VS.region tabOk (id := 7) [] (by kernel_rfl) ?_; generalize hK : VS _ _ _ = KK; simp [hF, hk6', hk6'']; try subst hK; try (refine VS.keep [3, 4, 5, 6, 7, 9] ?_; generalize hK : VS _ _ _ = KK; simp; try subst hK))
        | (refine VS.region tabOk (id := 8) [] (by kernel_rfl) ?_; generalize hK : VS _ _ _ = KK; simp [hF, hk6', hk6'']; try subst hK; try (refine VS.keep [3, 4, 5, 6, 7, 9, 11] ?_; generalize hK : VS _ _ _ = KK; simp; try subst hK))
        | (refine VS.region tabOk (id := 9) [(3, 41)] (by kernel_rfl) ?_; generalize hK : VS _ _ _ = KK; simp [hF, hk6', hk6'']; try subst hK; try (refine VS.keep [3, 4, 5, 6, 7, 47] ?_; generalize hK : VS _ _ _ = KK; simp; try subst hK))
        | (refine VS.region tabOk (id := 10) [] (by kernel_rfl) ?_; generalize hK : VS _ _ _ = KK; simp [hF, hk6', hk6'']; try subst hK; try (refine VS.keep [2] ?_; generalize hK : VS _ _ _ = KK; simp; try subst hK))
        | (refine VS.region tabOk (id := 11) [] (by kernel_rfl) ?_; generalize hK : VS _ _ _ = KK; simp [hF, hk6', hk6'']; try subst hK; try (refine VS.keep [3, 4, 5, 6, 7, 12] ?_; generalize hK : VS _ _ _ = KK; simp; try subst hK))
        | (refine VS.region tabOk (id := 12) [(2, 50)] (by kernel_rfl) ?_; generalize hK : VS _ _ _ = KK; simp [hF, hk6', hk6'']; try subst hK; try (refine VS.keep [3, 4, 5, 6, 7, 12, 53] ?_; generalize hK : VS _ _ _ = KK; simp; try subst hK))
        | (refine VS.region tabOk (id := 13) [] (by kernel_rfl) ?_; generalize hK : VS _ _ _ = KK; simp [hF, hk6', hk6'']; try subst hK; try (refine VS.keep [3, 4, 5, 6, 7, 12] ?_; generalize hK : VS _ _ _ = KK; simp; try subst hK))
        | (refine VS.region tabOk (id := 14) [] (by kernel_rfl) ?_; generalize hK : VS _ _ _ = KK; simp [hF, hk6', hk6'']; try subst hK; try (refine VS.keep [3, 4, 5, 6, 7, 12] ?_; generalize hK : VS _ _ _ = KK; simp; try subst hK))
        | (refine VS.region tabOk (id := 15) [] (by kernel_rfl) ?_; generalize hK : VS _ _ _ = KK; simp [hF, hk6', hk6'']; try subst hK; try (refine VS.keep [3, 4, 5, 6, 7, 12, 13] ?_; generalize hK : VS _ _ _ = KK; simp; try subst hK))
        | (refine VS.region tabOk (id := 16) [] (by kernel_rfl) ?_; generalize hK : VS _ _ _ = KK; simp [hF, hk6', hk6'']; try subst hK; try (refine VS.keep [3, 4, 5, 6, 7, 12, 76] ?_; generalize hK : VS _ _ _ = KK; simp; try subst hK))
        | (refine VS.region tabOk (id := 17) [] (by kernel_rfl) ?_; generalize hK : VS _ _ _ = KK; simp [hF, hk6', hk6'']; try subst hK; try (refine VS.keep [2] ?_; generalize hK : VS _ _ _ = KK; simp; try subst hK))
        | (refine VS.region tabOk (id := 18) [] (by kernel_rfl) ?_; generalize hK : VS _ _ _ = KK; simp [hF, hk6', hk6'']; try subst hK; try (refine VS.keep [3, 4, 14] ?_; generalize hK : VS _ _ _ = KK; simp; try subst hK))
        | (refine VS.region tabOk (id := 19) [] (by kernel_rfl) ?_; generalize hK : VS _ _ _ = KK; simp [hF, hk6', hk6'']; try subst hK; try (refine VS.keep [3, 4, 14, 78] ?_; generalize hK : VS _ _ _ = KK; simp; try subst hK))
        | (refine VS.region tabOk (id := 20) [] (by kernel_rfl) ?_; generalize hK : VS _ _ _ = KK; simp [hF, hk6', hk6'']; try subst hK; try (refine VS.keep [3, 4, 14] ?_; generalize hK : VS _ _ _ = KK; simp; try subst hK))
        | (refine VS.region tabOk (id := 21) [] (by kernel_rfl) ?_; generalize hK : VS _ _ _ = KK; simp [hF, hk6', hk6'']; try subst hK; try (refine VS.keep [3, 4, 14, 15] ?_; generalize hK : VS _ _ _ = KK; simp; try subst hK))
        | (refine VS.region tabOk (id := 22) [] (by kernel_rfl) ?_; generalize hK : VS _ _ _ = KK; simp [hF, hk6', hk6'']; try subst hK; try (refine VS.keep [3, 4, 14, 15, 17] ?_; generalize hK : VS _ _ _ = KK; simp; try subst hK))
        | (refine VS.region tabOk (id := 23) [] (by kernel_rfl) ?_; generalize hK : VS _ _ _ = KK; simp [hF, hk6', hk6'']; try subst hK; try (refine VS.keep [3, 4, 14, 95] ?_; generalize hK : VS _ _ _ = KK; simp; try subst hK))
        | (refine VS.region tabOk (id := 24) [] (by kernel_rfl) ?_; generalize hK : VS _ _ _ = KK; simp [hF, hk6', hk6'']; try subst hK; try (refine VS.keep [2] ?_; generalize hK : VS _ _ _ = KK; simp; try subst hK))
        | (refine VS.region tabOk (id := 25) [(5, 101), (10, 106)] (by kernel_rfl) ?_; generalize hK : VS _ _ _ = KK; simp [hF, hk6', hk6'']; try subst hK; try (refine VS.keep [2] ?_; generalize hK : VS _ _ _ = KK; simp; try subst hK))
        | (refine VS.cond ?_; generalize hK1 : VS _ _ _ = KK1; generalize hK2 : VS _ _ _ = KK2; simp [hF, hk6', hk6'']; try subst hK1; try subst hK2)
      refine nextK.of [3, 4, 5, 6, 7] [0, 1, 2] (m - 1) (by omega) (by simp [hF]) ?_
      refine ⟨o + 1, S2, at2, by omega, hpos2, hwf2.mono (by omega), hlen2, hat2, ?_⟩
      simp
      exact IntWalk.i64_in _ (by omega)
  · repeat first
      | refine VS.seq ?_
      | refine VS.skip ?_
      | refine VS.block ?_
      | refine VS.nil ?_
      | refine blockN_normal ?_
      | refine loopN_normal ?_
      | refine VS.exit ?_
      | refine blockN_hit ?_
      | refine blockN_miss (by decide) ?_
      | refine loopN_exit ?_
      | refine ⟨⟨by omega, by omega⟩, ?_⟩
      | (refine VS.region tabOk (id := 0) [] (by kernel_rfl) ?_; generalize hK : VS _ _ _ = KK; simp [hF]; try subst hK; try (refine VS.keep [0] ?_; generalize hK : VS _ _ _ = KK; simp; try subst hK))
      | (refine VS.region tabOk (id := 1) [] (by kernel_rfl) ?_; generalize hK : VS _ _ _ = KK; simp [hF]; try subst hK; try (refine VS.keep [0, 3, 4] ?_; generalize hK : VS _ _ _ = KK; simp; try subst hK))
      | (refine VS.region tabOk (id := 2) [] (by kernel_rfl) ?_; generalize hK : VS _ _ _ = KK; simp [hF]; try subst hK; try (refine VS.keep [0, 3, 4, 5] ?_; generalize hK : VS _ _ _ = KK; simp; try subst hK))
      | (refine VS.region tabOk (id := 3) [] (by kernel_rfl) ?_; generalize hK : VS _ _ _ = KK; simp [hF]; try subst hK; try (refine VS.keep [3, 4, 5, 6] ?_; generalize hK : VS _ _ _ = KK; simp; try subst hK))
      | (refine VS.region tabOk (id := 4) [] (by kernel_rfl) ?_; generalize hK : VS _ _ _ = KK; simp [hF]; try subst hK; try (refine VS.keep [3, 4, 5, 6, 7] ?_; generalize hK : VS _ _ _ = KK; simp; try subst hK))
      | (refine VS.region tabOk (id := 5) [] (by kernel_rfl) ?_; generalize hK : VS _ _ _ = KK; simp [hF]; try subst hK; try (refine VS.keep [3, 4, 5, 6, 7, 25] ?_; generalize hK : VS _ _ _ = KK; simp; try subst hK))
      | (refine VS.region tabOk (id := 6) [] (by kernel_rfl) ?_; generalize hK : VS _ _ _ = KK; simp [hF]; try subst hK; try (refine VS.keep [3, 4, 5, 6, 7] ?_; generalize hK : VS _ _ _ = KK; simp; try subst hK))
      | (refine VS.region tabOk (id := 7) [] (by kernel_rfl) ?_; generalize hK : VS _ _ _ = KK; simp [hF]; try subst hK; try (refine VS.keep [3, 4, 5, 6, 7, 9] ?_; generalize hK : VS _ _ _ = KK; simp; try subst hK))
      | (refine VS.region tabOk (id := 8) [] (by kernel_rfl) ?_; generalize hK : VS _ _ _ = KK; simp [hF]; try subst hK; try (refine VS.keep [3, 4, 5, 6, 7, 9, 11] ?_; generalize hK : VS _ _ _ = KK; simp; try subst hK))
      | (refine VS.region tabOk (id := 9) [(3, 41)] (by kernel_rfl) ?_; generalize hK : VS _ _ _ = KK; simp [hF]; try subst hK; try (refine VS.keep [3, 4, 5, 6, 7, 47] ?_; generalize hK : VS _ _ _ = KK; simp; try subst hK))
      | (refine VS.region tabOk (id := 10) [] (by kernel_rfl) ?_; generalize hK : VS _ _ _ = KK; simp [hF]; try subst hK; try (refine VS.keep [2] ?_; generalize hK : VS _ _ _ = KK; simp; try subst hK))
      | (refine VS.region tabOk (id := 11) [] (by kernel_rfl) ?_; generalize hK : VS _ _ _ = KK; simp [hF]; try subst hK; try (refine VS.keep [3, 4, 5, 6, 7, 12] ?_; generalize hK : VS _ _ _ = KK; simp; try subst hK))
      | (refine VS.region tabOk (id := 12) [(2, 50)] (by kernel_rfl) ?_; generalize hK : VS _ _ _ = KK; simp [hF]; try subst hK; try (refine VS.keep [3, 4, 5, 6, 7, 12, 53] ?_; generalize hK : VS _ _ _ = KK; simp; try subst hK))
      | (refine VS.region tabOk (id := 13) [] (by kernel_rfl) ?_; generalize hK : VS _ _ _ = KK; simp [hF]; try subst hK; try (refine VS.keep [3, 4, 5, 6, 7, 12] ?_; generalize hK : VS _ _ _ = KK; simp; try subst hK))
      | (refine VS.region tabOk (id := 14) [] (by kernel_rfl) ?_; generalize hK : VS _ _ _ = KK; simp [hF]; try subst hK; try (refine VS.keep [3, 4, 5, 6, 7, 12] ?_; generalize hK : VS _ _ _ = KK; simp; try subst hK))
      | (refine VS.region tabOk (id := 15) [] (by kernel_rfl) ?_; generalize hK : VS _ _ _ = KK; simp [hF]; try subst hK; try (refine VS.keep [3, 4, 5, 6, 7, 12, 13] ?_; generalize hK : VS _ _ _ = KK; simp; try subst hK))
      | (refine VS.region tabOk (id := 16) [] (by kernel_rfl) ?_; generalize hK : VS _ _ _ = KK; simp [hF]; try subst hK; try (refine VS.keep [3, 4, 5, 6, 7, 12, 76] ?_; generalize hK : VS _ _ _ = KK; simp; try subst hK))
      | (refine VS.region tabOk (id := 17) [] (by kernel_rfl) ?_; generalize hK : VS _ _ _ = KK; simp [hF]; try subst hK; try (refine VS.keep [2] ?_; generalize hK : VS _ _ _ = KK; simp; try subst hK))
      | (refine VS.region tabOk (id := 18) [] (by kernel_rfl) ?_; generalize hK : VS _ _ _ = KK; simp [hF]; try subst hK; try (refine VS.keep [3, 4, 14] ?_; generalize hK : VS _ _ _ = KK; simp; try subst hK))
      | (refine VS.region tabOk (id := 19) [] (by kernel_rfl) ?_; generalize hK : VS _ _ _ = KK; simp [hF]; try subst hK; try (refine VS.keep [3, 4, 14, 78] ?_; generalize hK : VS _ _ _ = KK; simp; try subst hK))
      | (refine VS.region tabOk (id := 20) [] (by kernel_rfl) ?_; generalize hK : VS _ _ _ = KK; simp [hF]; try subst hK; try (refine VS.keep [3, 4, 14] ?_; generalize hK : VS _ _ _ = KK; simp; try subst hK))
      | (refine VS.region tabOk (id := 21) [] (by kernel_rfl) ?_; generalize hK : VS _ _ _ = KK; simp [hF]; try subst hK; try (refine VS.keep [3, 4, 14, 15] ?_; generalize hK : VS _ _ _ = KK; simp; try subst hK))
      | (refine VS.region tabOk (id := 22) [] (by kernel_rfl) ?_; generalize hK : VS _ _ _ = KK; simp [hF]; try subst hK; try (refine VS.keep [3, 4, 14, 15, 17] ?_; generalize hK : VS _ _ _ = KK; simp; try subst hK))
      | (refine VS.region tabOk (id := 23) [] (by kernel_rfl) ?_; generalize hK : VS _ _ _ = KK; simp [hF]; try subst hK; try (refine VS.keep [3, 4, 14, 95] ?_; generalize hK : VS _ _ _ = KK; simp; try subst hK))
      | (refine VS.region tabOk (id := 24) [] (by kernel_rfl) ?_; generalize hK : VS _ _ _ = KK; simp [hF]; try subst hK; try (refine VS.keep [2] ?_; generalize hK : VS _ _ _ = KK; simp; try subst hK))
      | (refine VS.region tabOk (id := 25) [(5, 101), (10, 106)] (by kernel_rfl) ?_; generalize hK : VS _ _ _ = KK; simp [hF]; try subst hK; try (refine VS.keep [2] ?_; generalize hK : VS _ _ _ = KK; simp; try subst hK))
      | (refine VS.cond ?_; generalize hK1 : VS _ _ _ = KK1; generalize hK2 : VS _ _ _ = KK2; simp [hF]; try subst hK1; try subst hK2)
    refine VS.rounds (fun m' st => ∃ (p : Nat), p + m' = 100 ∧
      st = ⟨[(3, .ptr 0 [.d]), (4, .ptr 1 [.d]), (14, avInt p)], [dSp S, dRSp S, .sl true () 1 (dStrs lnames)], [], []⟩) ⟨100, 0, rfl, rfl⟩ ?_
    rintro m' st ⟨p, hpm, rfl⟩
    repeat first
      | refine VS.seq ?_
      | refine VS.skip ?_
      | refine VS.block ?_
      | refine VS.nil ?_
      | refine blockN_normal ?_
      | refine loopN_normal ?_
      | refine VS.exit ?_
      | refine blockN_hit ?_
      | refine blockN_miss (by decide) ?_
      | refine loopN_exit ?_
      | refine ⟨⟨by omega, by omega⟩, ?_⟩
      | (refine VS.region tabOk (id := 0) [] (by kernel_rfl) ?_; generalize hK : VS _ _ _ = KK; simp [hF]; try subst hK; try (refine VS.keep [0] ?_; generalize hK : VS _ _ _ = KK; simp; try subst hK))
      | (refine VS.region tabOk (id := 1) [] (by kernel_rfl) ?_; generalize hK : VS _ _ _ = KK; simp [hF]; try subst hK; try (refine VS.keep [0, 3, 4] ?_; generalize hK : VS _ _ _ = KK; simp; try subst hK))
      | (refine VS.region tabOk (id := 2) [] (by kernel_rfl) ?_; generalize hK : VS _ _ _ = KK; simp [hF]; try subst hK; try (refine VS.keep [0, 3, 4, 5] ?_; generalize hK : VS _ _ _ = KK; simp; try subst hK))
      | (refine VS.region tabOk (id := 3) [] (by kernel_rfl) ?_; generalize hK : VS _ _ _ = KK; simp [hF]; try subst hK; try (refine VS.keep [3, 4, 5, 6] ?_; generalize hK : VS _ _ _ = KK; simp; try subst hK))
      | (refine VS.region tabOk (id := 4) [] (by kernel_rfl) ?_; generalize hK : VS _ _ _ = KK; simp [hF]; try subst hK; try (refine VS.keep [3, 4, 5, 6, 7] ?_; generalize hK : VS _ _ _ = KK; simp; try subst hK))
      | (refine VS.region tabOk (id := 5) [] (by kernel_rfl) ?_; generalize hK : VS _ _ _ = KK; simp [hF]; try subst hK; try (refine VS.keep [3, 4, 5, 6, 7, 25] ?_; generalize hK : VS _ _ _ = KK; simp; try subst hK))
      | (refine VS.region tabOk (id := 6) [] (by kernel_rfl) ?_; generalize hK : VS _ _ _ = KK; simp [hF]; try subst hK; try (refine VS.keep [3, 4, 5, 6, 7] ?_; generalize hK : VS _ _ _ = KK; simp; try subst hK))
      | (refine VS.region tabOk (id := 7) [] (by kernel_rfl) ?_; generalize hK : VS _ _ _ = KK; simp [hF]; try subst hK; try (refine VS.keep [3, 4, 5, 6, 7, 9] ?_; generalize hK : VS _ _ _ = KK; simp; try subst hK))
      | (refine VS.region tabOk (id := 8) [] (by kernel_rfl) ?_; generalize hK : VS _ _ _ = KK; simp [hF]; try subst hK; try (refine VS.keep [3, 4, 5, 6, 7, 9, 11] ?_; generalize hK : VS _ _ _ = KK; simp; try subst hK))
      | (refine VS.region tabOk (id := 9) [(3, 41)] (by kernel_rfl) ?_; generalize hK : VS _ _ _ = KK; simp [hF]; try subst hK; try (refine VS.keep [3, 4, 5, 6, 7, 47] ?_; generalize hK : VS _ _ _ = KK; simp; try subst hK))
      | (refine VS.region tabOk (id := 10) [] (by kernel_rfl) ?_; generalize hK : VS _ _ _ = KK; simp [hF]; try subst hK; try (refine VS.keep [2] ?_; generalize hK : VS _ _ _ = KK; simp; try subst hK))
      | (refine VS.region tabOk (id := 11) [] (by kernel_rfl) ?_; generalize hK : VS _ _ _ = KK; simp [hF]; try subst hK; try (refine VS.keep [3, 4, 5, 6, 7, 12] ?_; generalize hK : VS _ _ _ = KK; simp; try subst hK))
      | (refine VS.region tabOk (id := 12) [(2, 50)] (by kernel_rfl) ?_; generalize hK : VS _ _ _ = KK; simp [hF]; try subst hK; try (refine VS.keep [3, 4, 5, 6, 7, 12, 53] ?_; generalize hK : VS _ _ _ = KK; simp; try subst hK))
      | (refine VS.region tabOk (id := 13) [] (by kernel_rfl) ?_; generalize hK : VS _ _ _ = KK; simp [hF]; try subst hK; try (refine VS.keep [3, 4, 5, 6, 7, 12] ?_; generalize hK : VS _ _ _ = KK; simp; try subst hK))
      | (refine VS.region tabOk (id := 14) [] (by kernel_rfl) ?_; generalize hK : VS _ _ _ = KK; simp [hF]; try subst hK; try (refine VS.keep [3, 4, 5, 6, 7, 12] ?_; generalize hK : VS _ _ _ = KK; simp; try subst hK))
      | (refine VS.region tabOk (id := 15) [] (by kernel_rfl) ?_; generalize hK : VS _ _ _ = KK; simp [hF]; try subst hK; try (refine VS.keep [3, 4, 5, 6, 7, 12, 13] ?_; generalize hK : VS _ _ _ = KK; simp; try subst hK))
      | (refine VS.region tabOk (id := 16) [] (by kernel_rfl) ?_; generalize hK : VS _ _ _ = KK; simp [hF]; try subst hK; try (refine VS.keep [3, 4, 5, 6, 7, 12, 76] ?_; generalize hK : VS _ _ _ = KK; simp; try subst hK))
      | (refine VS.region tabOk (id := 17) [] (by kernel_rfl) ?_; generalize hK : VS _ _ _ = KK; simp [hF]; try subst hK; try (refine VS.keep [2] ?_; generalize hK : VS _ _ _ = KK; simp; try subst hK))
      | (refine VS.region tabOk (id := 18) [] (by kernel_rfl) ?_; generalize hK : VS _ _ _ = KK; simp [hF]; try subst hK; try (refine VS.keep [3, 4, 14] ?_; generalize hK : VS _ _ _ = KK; simp; try subst hK))
      | (refine VS.region tabOk (id := 19) [] (by kernel_rfl) ?_; generalize hK : VS _ _ _ = KK; simp [hF]; try subst hK; try (refine VS.keep [3, 4, 14, 78] ?_; generalize hK : VS _ _ _ = KK; simp; try subst hK))
      | (refine VS.region tabOk (id := 20) [] (by kernel_rfl) ?_; generalize hK : VS _ _ _ = KK; simp [hF]; try subst hK; try (refine VS.keep [3, 4, 14] ?_; generalize hK : VS _ _ _ = KK; simp; try subst hK))
      | (refine VS.region tabOk (id := 21) [] (by kernel_rfl) ?_; generalize hK : VS _ _ _ = KK; simp [hF]; try subst hK; try (refine VS.keep [3, 4, 14, 15] ?_; generalize hK : VS _ _ _ = KK; simp; try subst hK))
      | (refine VS.region tabOk (id := 22) [] (by kernel_rfl) ?_; generalize hK : VS _ _ _ = KK; simp [hF]; try subst hK; try (refine VS.keep [3, 4, 14, 15, 17] ?_; generalize hK : VS _ _ _ = KK; simp; try subst hK))
      | (refine VS.region tabOk (id := 23) [] (by kernel_rfl) ?_; generalize hK : VS _ _ _ = KK; simp [hF]; try subst hK; try (refine VS.keep [3, 4, 14, 95] ?_; generalize hK : VS _ _ _ = KK; simp; try subst hK))
      | (refine VS.region tabOk (id := 24) [] (by kernel_rfl) ?_; generalize hK : VS _ _ _ = KK; simp [hF]; try subst hK; try (refine VS.keep [2] ?_; generalize hK : VS _ _ _ = KK; simp; try subst hK))
      | (refine VS.region tabOk (id := 25) [(5, 101), (10, 106)] (by kernel_rfl) ?_; generalize hK : VS _ _ _ = KK; simp [hF]; try subst hK; try (refine VS.keep [2] ?_; generalize hK : VS _ _ _ = KK; simp; try subst hK))
      | (refine VS.cond ?_; generalize hK1 : VS _ _ _ = KK1; generalize hK2 : VS _ _ _ = KK2; simp [hF]; try subst hK1; try subst hK2)
    refine ⟨fun hp1 => ?_, fun hp2 => ?_⟩
    · repeat first
        | refine VS.seq ?_
        | refine VS.skip ?_
        | refine VS.block ?_
        | refine VS.nil ?_
        | refine blockN_normal ?_
        | refine loopN_normal ?_
        | refine VS.exit ?_
        | refine blockN_hit ?_
        | refine blockN_miss (by decide) ?_
        | refine loopN_exit ?_
        | refine ⟨⟨by omega, by omega⟩, ?_⟩
        | (refine VS.region tabOk (id := 0) [] (by kernel_rfl) ?_; generalize hK : VS _ _ _ = KK; simp [hF]; try subst hK; try (refine VS.keep [0] ?_; generalize hK : VS _ _ _ = KK; simp; try subst hK))
        | (refine VS.region tabOk (id := 1) [] (by kernel_rfl) ?_; generalize hK : VS _ _ _ = KK; simp [hF]; try subst hK; try (refine VS.keep [0, 3, 4] ?_; generalize hK : VS _ _ _ = KK; simp; try subst hK))
        | (refine VS.region tabOk (id := 2) [] (by kernel_rfl) ?_; generalize hK : VS _ _ _ = KK; simp [hF]; try subst hK; try (refine VS.keep [0, 3, 4, 5] ?_; generalize hK : VS _ _ _ = KK; simp; try subst hK))
        | (refine VS.region tabOk (id := 3) [] (by kernel_rfl) ?_; generalize hK : VS _ _ _ = KK; simp [hF]; try subst hK; try (refine VS.keep [3, 4, 5, 6] ?_; generalize hK : VS _ _ _ = KK; simp; try subst hK))
        | (refine VS.region tabOk (id := 4) [] (by kernel_rfl) ?_; generalize hK : VS _ _ _ = KK; simp [hF]; try subst hK; try (refine VS.keep [3, 4, 5, 6, 7] ?_; generalize hK : VS _ _ _ = KK; simp; try subst hK))
        | (refine VS.region tabOk (id := 5) [] (by kernel_rfl) ?_; generalize hK : VS _ _ _ = KK; simp [hF]; try subst hK; try (refine VS.keep [3, 4, 5, 6, 7, 25] ?_; generalize hK : VS _ _ _ = KK; simp; try subst hK))
        | (refine VS.region tabOk (id := 6) [] (by kernel_rfl) ?_; generalize hK : VS _ _ _ = KK; simp [hF]; try subst hK; try (refine VS.keep [3, 4, 5, 6, 7] ?_; generalize hK : VS _ _ _ = KK; simp; try subst hK))
        | (refine VS.region tabOk (id := 7) [] (by kernel_rfl) ?_; generalize hK : VS _ _ _ = KK; simp [hF]; try subst hK; try (refine VS.keep [3, 4, 5, 6, 7, 9] ?_; generalize hK : VS _ _ _ = KK; simp; try subst hK))
        | (refine VS.region tabOk (id := 8) [] (by kernel_rfl) ?_; generalize hK : VS _ _ _ = KK; simp [hF]; try subst hK; try (refine VS.keep [3, 4, 5, 6, 7, 9, 11] ?_; generalize hK : VS _ _ _ = KK; simp; try subst hK))
        | (refine VS.region tabOk (id := 9) [(3, 41)] (by kernel_rfl) ?_; generalize hK : VS _ _ _ = KK; simp [hF]; try subst hK; try (refine VS.keep [3, 4, 5, 6, 7, 47] ?_; generalize hK : VS _ _ _ = KK; simp; try subst hK))
        | (refine VS.region tabOk (id := 10) [] (by kernel_rfl) ?_; generalize hK : VS _ _ _ = KK; simp [hF]; try subst hK; try (refine VS.keep [2] ?_; generalize hK : VS _ _ _ = KK; simp; try subst hK))
        | (refine VS.region tabOk (id := 11) [] (by kernel_rfl) ?_; generalize hK : VS _ _ _ = KK; simp [hF]; try subst hK; try (refine VS.keep [3, 4, 5, 6, 7, 12] ?_; generalize hK : VS _ _ _ = KK; simp; try subst hK))
        | (refine VS.region tabOk (id := 12) [(2, 50)] (by kernel_rfl) ?_; generalize hK : VS _ _ _ = KK; simp [hF]; try subst hK; try (refine VS.keep [3, 4, 5, 6, 7, 12, 53] ?_; generalize hK : VS _ _ _ = KK; simp; try subst hK))
        | (refine VS.region tabOk (id := 13) [] (by kernel_rfl) ?_; generalize hK : VS _ _ _ = KK; simp [hF]; try subst hK; try (refine VS.keep [3, 4, 5, 6, 7, 12] ?_; generalize hK : VS _ _ _ = KK; simp; try subst hK))
        | (refine VS.region tabOk (id := 14) [] (by kernel_rfl) ?_; generalize hK : VS _ _ _ = KK; simp [hF]; try subst hK; try (refine VS.keep [3, 4, 5, 6, 7, 12] ?_; generalize hK : VS _ _ _ = KK; simp; try subst hK))
        | (refine VS.region tabOk (id := 15) [] (by kernel_rfl) ?_; generalize hK : VS _ _ _ = KK; simp [hF]; try subst hK; try (refine VS.keep [3, 4, 5, 6, 7, 12, 13] ?_; generalize hK : VS _ _ _ = KK; simp; try subst hK))
        | (refine VS.region tabOk (id := 16) [] (by kernel_rfl) ?_; generalize hK : VS _ _ _ = KK; simp [hF]; try subst hK; try (refine VS.keep [3, 4, 5, 6, 7, 12, 76] ?_; generalize hK : VS _ _ _ = KK; simp; try subst hK))
        | (refine VS.region tabOk (id := 17) [] (by kernel_rfl) ?_; generalize hK : VS _ _ _ = KK; simp [hF]; try subst hK; try (refine VS.keep [2] ?_; generalize hK : VS _ _ _ = KK; simp; try subst hK))
        | (refine VS.region tabOk (id := 18) [] (by kernel_rfl) ?_; generalize hK : VS _ _ _ = KK; simp [hF]; try subst hK; try (refine VS.keep [3, 4, 14] ?_; generalize hK : VS _ _ _ = KK; simp; try subst hK))
        | (refine VS.region tabOk (id := 19) [] (by kernel_rfl) ?_; generalize hK : VS _ _ _ = KK; simp [hF]; try subst hK; try (refine VS.keep [3, 4, 14, 78] ?_; generalize hK : VS _ _ _ = KK; simp; try subst hK))
        | (refine VS.region tabOk (id := 20) [] (by kernel_rfl) ?_; generalize hK : VS _ _ _ = KK; simp [hF]; try subst hK; try (refine VS.keep [3, 4, 14] ?_; generalize hK : VS _ _ _ = KK; simp; try subst hK))
        | (refine VS.region tabOk (id := 21) [] (by kernel_rfl) ?_; generalize hK : VS _ _ _ = KK; simp [hF]; try subst hK; try (refine VS.keep [3, 4, 14, 15] ?_; generalize hK : VS _ _ _ = KK; simp; try subst hK))
        | (refine VS.region tabOk (id := 22) [] (by kernel_rfl) ?_; generalize hK : VS _ _ _ = KK; simp [hF]; try subst hK; try (refine VS.keep [3, 4, 14, 15, 17] ?_; generalize hK : VS _ _ _ = KK; simp; try subst hK))
        | (refine VS.region tabOk (id := 23) [] (by kernel_rfl) ?_; generalize hK : VS _ _ _ = KK; simp [hF]; try subst hK; try (refine VS.keep [3, 4, 14, 95] ?_; generalize hK : VS _ _ _ = KK; simp; try subst hK))
        | (refine VS.region tabOk (id := 24) [] (by kernel_rfl) ?_; generalize hK : VS _ _ _ = KK; simp [hF]; try subst hK; try (refine VS.keep [2] ?_; generalize hK : VS _ _ _ = KK; simp; try subst hK))
        | (refine VS.region tabOk (id := 25) [(5, 101), (10, 106)] (by kernel_rfl) ?_; generalize hK : VS _ _ _ = KK; simp [hF]; try subst hK; try (refine VS.keep [2] ?_; generalize hK : VS _ _ _ = KK; simp; try subst hK))
        | (refine VS.cond ?_; generalize hK1 : VS _ _ _ = KK1; generalize hK2 : VS _ _ _ = KK2; simp [hF]; try subst hK1; try subst hK2)
      refine (shape_ok S p).call [(0, [])] (by simp) (by simp [hF, dSp]) (by simp [hF, dSp]) (by simp [hF, dSp]) ?_
      rintro av X κ ⟨rfl, rfl, rfl⟩
      generalize hK : VS _ _ _ = KK; simp [hF, dSp]; try subst hK
      repeat first
        | refine VS.seq ?_
        | refine VS.skip ?_
        | refine VS.block ?_
        | refine VS.nil ?_
        | refine blockN_normal ?_
        | refine loopN_normal ?_
        | refine VS.exit ?_
        | refine blockN_hit ?_
        | refine blockN_miss (by decide) ?_
        | refine loopN_exit ?_
        | refine ⟨⟨by omega, by omega⟩, ?_⟩
        | (refine VS.region tabOk (id := 0) [] (by kernel_rfl) ?_; generalize hK : VS _ _ _ = KK; simp [hF]; try subst hK; try (refine VS.keep [0] ?_; generalize hK : VS _ _ _ = KK; simp; try subst hK))
        | (refine VS.region tabOk (id := 1) [] (by kernel_rfl) ?_; generalize hK : VS _ _ _ = KK; simp [hF]; try subst hK; try (refine VS.keep [0, 3, 4] ?_; generalize hK : VS _ _ _ = KK; simp; try subst hK))
        | (refine VS.region tabOk (id := 2) [] (by kernel_rfl) ?_; generalize hK : VS _ _ _ = KK; simp [hF]; try subst hK; try (refine VS.keep [0, 3, 4, 5] ?_; generalize hK : VS _ _ _ = KK; simp; try subst hK))
        | (refine VS.region tabOk (id := 3) [] (by kernel_rfl) ?_; generalize hK : VS _ _ _ = KK; simp [hF]; try subst hK; try (refine VS.keep [3, 4, 5, 6] ?_; generalize hK : VS _ _ _ = KK; simp; try subst hK))
        | (refine VS.region tabOk (id := 4) [] (by kernel_rfl) ?_; generalize hK : VS _ _ _ = KK; simp [hF]; try subst hK; try (refine VS.keep [3, 4, 5, 6, 7] ?_; generalize hK : VS _ _ _ = KK; simp; try subst hK))
        | (refine VS.region tabOk (id := 5) [] (by kernel_rfl) ?_; generalize hK : VS _ _ _ = KK; simp [hF]; try subst hK; try (refine VS.keep [3, 4, 5, 6, 7, 25] ?_; generalize hK : VS _ _ _ = KK; simp; try subst hK))
        | (refine VS.region tabOk (id := 6) [] (by kernel_rfl) ?_; generalize hK : VS _ _ _ = KK; simp [hF]; try subst hK; try (refine VS.keep [3, 4, 5, 6, 7] ?_; generalize hK : VS _ _ _ = KK; simp; try subst hK))
        | (refine VS.region tabOk (id := 7) [] (by kernel_rfl) ?_; generalize hK : VS _ _ _ = KK; simp [hF]; try subst hK; try (refine VS.keep [3, 4, 5, 6, 7, 9] ?_; generalize hK : VS _ _ _ = KK; simp; try subst hK))
        | (refine VS.region tabOk (id := 8) [] (by kernel_rfl) ?_; generalize hK : VS _ _ _ = KK; simp [hF]; try subst hK; try (refine VS.keep [3, 4, 5, 6, 7, 9, 11] ?_; generalize hK : VS _ _ _ = KK; simp; try subst hK))
        | (refine VS.region tabOk (id := 9) [(3, 41)] (by kernel_rfl) ?_; generalize hK : VS _ _ _ = KK; simp [hF]; try subst hK; try (refine VS.keep [3, 4, 5, 6, 7, 47] ?_; generalize hK : VS _ _ _ = KK; simp; try subst hK))
        | (refine VS.region tabOk (id := 10) [] (by kernel_rfl) ?_; generalize hK : VS _ _ _ = KK; simp [hF]; try subst hK; try (refine VS.keep [2] ?_; generalize hK : VS _ _ _ = KK; simp; try subst hK))
        | (refine VS.region tabOk (id := 11) [] (by kernel_rfl) ?_; generalize hK : VS _ _ _ = KK; simp [hF]; try subst hK; try (refine VS.keep [3, 4, 5, 6, 7, 12] ?_; generalize hK : VS _ _ _ = KK; simp; try subst hK))
        | (refine VS.region tabOk (id := 12) [(2, 50)] (by kernel_rfl) ?_; generalize hK : VS _ _ _ = KK; simp [hF]; try subst hK; try (refine VS.keep [3, 4, 5, 6, 7, 12, 53] ?_; generalize hK : VS _ _ _ = KK; simp; try subst hK))
        | (refine VS.region tabOk (id := 13) [] (by kernel_rfl) ?_; generalize hK : VS _ _ _ = KK; simp [hF]; try subst hK; try (refine VS.keep [3, 4, 5, 6, 7, 12] ?_; generalize hK : VS _ _ _ = KK; simp; try subst hK))
        | (refine VS.region tabOk (id := 14) [] (by kernel_rfl) ?_; generalize hK : VS _ _ _ = KK; simp [hF]; try subst hK; try (refine VS.keep [3, 4, 5, 6, 7, 12] ?_; generalize hK : VS _ _ _ = KK; simp; try subst hK))
        | (refine VS.region tabOk (id := 15) [] (by kernel_rfl) ?_; generalize hK : VS _ _ _ = KK; simp [hF]; try subst hK; try (refine VS.keep [3, 4, 5, 6, 7, 12, 13] ?_; generalize hK : VS _ _ _ = KK; simp; try subst hK))
        | (refine VS.region tabOk (id := 16) [] (by kernel_rfl) ?_; generalize hK : VS _ _ _ = KK; simp [hF]; try subst hK; try (refine VS.keep [3, 4, 5, 6, 7, 12, 76] ?_; generalize hK : VS _ _ _ = KK; simp; try subst hK))
        | (refine VS.region tabOk (id := 17) [] (by kernel_rfl) ?_; generalize hK : VS _ _ _ = KK; simp [hF]; try subst hK; try (refine VS.keep [2] ?_; generalize hK : VS _ _ _ = KK; simp; try subst hK))
        | (refine VS.region tabOk (id := 18) [] (by kernel_rfl) ?_; generalize hK : VS _ _ _ = KK; simp [hF]; try subst hK; try (refine VS.keep [3, 4, 14] ?_; generalize hK : VS _ _ _ = KK; simp; try subst hK))
        | (refine VS.region tabOk (id := 19) [] (by kernel_rfl) ?_; generalize hK : VS _ _ _ = KK; simp [hF]; try subst hK; try (refine VS.keep [3, 4, 14, 78] ?_; generalize hK : VS _ _ _ = KK; simp; try subst hK))
        | (refine VS.region tabOk (id := 20) [] (by kernel_rfl) ?_; generalize hK : VS _ _ _ = KK; simp [hF]; try subst hK; try (refine VS.keep [3, 4, 14] ?_; generalize hK : VS _ _ _ = KK; simp; try subst hK))
        | (refine VS.region tabOk (id := 21) [] (by kernel_rfl) ?_; generalize hK : VS _ _ _ = KK; simp [hF]; try subst hK; try (refine VS.keep [3, 4, 14, 15] ?_; generalize hK : VS _ _ _ = KK; simp; try subst hK))
        | (refine VS.region tabOk (id := 22) [] (by kernel_rfl) ?_; generalize hK : VS _ _ _ = KK; simp [hF]; try subst hK; try (refine VS.keep [3, 4, 14, 15, 17] ?_; generalize hK : VS _ _ _ = KK; simp; try subst hK))
        | (refine VS.region tabOk (id := 23) [] (by kernel_rfl) ?_; generalize hK : VS _ _ _ = KK; simp [hF]; try subst hK; try (refine VS.keep [3, 4, 14, 95] ?_; generalize hK : VS _ _ _ = KK; simp; try subst hK))
        | (refine VS.region tabOk (id := 24) [] (by kernel_rfl) ?_; generalize hK : VS _ _ _ = KK; simp [hF]; try subst hK; try (refine VS.keep [2] ?_; generalize hK : VS _ _ _ = KK; simp; try subst hK))
        | (refine VS.region tabOk (id := 25) [(5, 101), (10, 106)] (by kernel_rfl) ?_; generalize hK : VS _ _ _ = KK; simp [hF]; try subst hK; try (refine VS.keep [2] ?_; generalize hK : VS _ _ _ = KK; simp; try subst hK))
        | (refine VS.cond ?_; generalize hK1 : VS _ _ _ = KK1; generalize hK2 : VS _ _ _ = KK2; simp [hF]; try subst hK1; try subst hK2)
      refine (rshape_ok S hpos p).call [(1, [])] (by simp) (by simp [hF, dRSp]) (by simp [hF, dRSp]) (by simp [hF, dRSp]) ?_
      rintro av X κ ⟨rfl, rfl, rfl⟩
      generalize hK : VS _ _ _ = KK; simp [hF, dRSp]; try subst hK
      repeat first
        | refine VS.seq ?_
        | refine VS.skip ?_
        | refine VS.block ?_
        | refine VS.nil ?_
        | refine blockN_normal ?_
        | refine loopN_normal ?_
        | refine VS.exit ?_
        | refine blockN_hit ?_
        | refine blockN_miss (by decide) ?_
        | refine loopN_exit ?_
        | refine ⟨⟨by omega, by omega⟩, ?_⟩
        | (refine VS.region tabOk (id := 0) [] (by kernel_rfl) ?_; generalize hK : VS _ _ _ = KK; simp [hF]; try subst hK; try (refine VS.keep [0] ?_; generalize hK : VS _ _ _ = KK; simp; try subst hK))
        | (refine VS.region tabOk (id := 1) [] (by kernel_rfl) ?_; generalize hK : VS _ _ _ = KK; simp [hF]; try subst hK; try (refine VS.keep [0, 3, 4] ?_; generalize hK : VS _ _ _ = KK; simp; try subst hK))
        | (refine VS.region tabOk (id := 2) [] (by kernel_rfl) ?_; generalize hK : VS _ _ _ = KK; simp [hF]; try subst hK; try (refine VS.keep [0, 3, 4, 5] ?_; generalize hK : VS _ _ _ = KK; simp; try subst hK))
        | (refine VS.region tabOk (id := 3) [] (by kernel_rfl) ?_; generalize hK : VS _ _ _ = KK; simp [hF]; try subst hK; try (refine VS.keep [3, 4, 5, 6] ?_; generalize hK : VS _ _ _ = KK; simp; try subst hK))
        | (refine VS.region tabOk (id := 4) [] (by kernel_rfl) ?_; generalize hK : VS _ _ _ = KK; simp [hF]; try subst hK; try (refine VS.keep [3, 4, 5, 6, 7] ?_; generalize hK : VS _ _ _ = KK; simp; try subst hK))
        | (refine VS.region tabOk (id := 5) [] (by kernel_rfl) ?_; generalize hK : VS _ _ _ = KK; simp [hF]; try subst hK; try (refine VS.keep [3, 4, 5, 6, 7, 25] ?_; generalize hK : VS _ _ _ = KK; simp; try subst hK))
        | (refine VS.region tabOk (id := 6) [] (by kernel_rfl) ?_; generalize hK : VS _ _ _ = KK; simp [hF]; try subst hK; try (refine VS.keep [3, 4, 5, 6, 7] ?_; generalize hK : VS _ _ _ = KK; simp; try subst hK))
        | (refine VS.region tabOk (id := 7) [] (by kernel_rfl) ?_; generalize hK : VS _ _ _ = KK; simp [hF]; try subst hK; try (refine VS.keep [3, 4, 5, 6, 7, 9] ?_; generalize hK : VS _ _ _ = KK; simp; try subst hK))
        | (refine VS.region tabOk (id := 8) [] (by kernel_rfl) ?_; generalize hK : VS _ _ _ = KK; simp [hF]; try subst hK; try (refine VS.keep [3, 4, 5, 6, 7, 9, 11] ?_; generalize hK : VS _ _ _ = KK; simp; try subst hK))
        | (refine VS.region tabOk (id := 9) [(3, 41)] (by kernel_rfl) ?_; generalize hK : VS _ _ _ = KK; simp [hF]; try subst hK; try (refine VS.keep [3, 4, 5, 6, 7, 47] ?_; generalize hK : VS _ _ _ = KK; simp; try subst hK))
        | (refine VS.region tabOk (id := 10) [] (by kernel_rfl) ?_; generalize hK : VS _ _ _ = KK; simp [hF]; try subst hK; try (refine VS.keep [2] ?_; generalize hK : VS _ _ _ = KK; simp; try subst hK))
        | (refine VS.region tabOk (id := 11) [] (by kernel_rfl) ?_; generalize hK : VS _ _ _ = KK; simp [hF]; try subst hK; try (refine VS.keep [3, 4, 5, 6, 7, 12] ?_; generalize hK : VS _ _ _ = KK; simp; try subst hK))
        | (refine VS.region tabOk (id := 12) [(2, 50)] (by kernel_rfl) ?_; generalize hK : VS _ _ _ = KK; simp [hF]; try subst hK; try (refine VS.keep [3, 4, 5, 6, 7, 12, 53] ?_; generalize hK : VS _ _ _ = KK; simp; try subst hK))
        | (refine VS.region tabOk (id := 13) [] (by kernel_rfl) ?_; generalize hK : VS _ _ _ = KK; simp [hF]; try subst hK; try (refine VS.keep [3, 4, 5, 6, 7, 12] ?_; generalize hK : VS _ _ _ = KK; simp; try subst hK))
        | (refine VS.region tabOk (id := 14) [] (by kernel_rfl) ?_; generalize hK : VS _ _ _ = KK; simp [hF]; try subst hK; try (refine VS.keep [3, 4, 5, 6, 7, 12] ?_; generalize hK : VS _ _ _ = KK; simp; try subst hK))
        | (refine VS.region tabOk (id := 15) [] (by kernel_rfl) ?_; generalize hK : VS _ _ _ = KK; simp [hF]; try subst hK; try (refine VS.keep [3, 4, 5, 6, 7, 12, 13] ?_; generalize hK : VS _ _ _ = KK; simp; try subst hK))
        | (refine VS.region tabOk (id := 16) [] (by kernel_rfl) ?_; generalize hK : VS _ _ _ = KK; simp [hF]; try subst hK; try (refine VS.keep [3, 4, 5, 6, 7, 12, 76] ?_; generalize hK : VS _ _ _ = KK; simp; try subst hK))
        | (refine VS.region tabOk (id := 17) [] (by kernel_rfl) ?_; generalize hK : VS _ _ _ = KK; simp [hF]; try subst hK; try (refine VS.keep [2] ?_; generalize hK : VS _ _ _ = KK; simp; try subst hK))
        | (refine VS.region tabOk (id := 18) [] (by kernel_rfl) ?_; generalize hK : VS _ _ _ = KK; simp [hF]; try subst hK; try (refine VS.keep [3, 4, 14] ?_; generalize hK : VS _ _ _ = KK; simp; try subst hK))
        | (refine VS.region tabOk (id := 19) [] (by kernel_rfl) ?_; generalize hK : VS _ _ _ = KK; simp [hF]; try subst hK; try (refine VS.keep [3, 4, 14, 78] ?_; generalize hK : VS _ _ _ = KK; simp; try subst hK))
        | (refine VS.region tabOk (id := 20) [] (by kernel_rfl) ?_; generalize hK : VS _ _ _ = KK; simp [hF]; try subst hK; try (refine VS.keep [3, 4, 14] ?_; generalize hK : VS _ _ _ = KK; simp; try subst hK))
        | (refine VS.region tabOk (id := 21) [] (by kernel_rfl) ?_; generalize hK : VS _ _ _ = KK; simp [hF]; try subst hK; try (refine VS.keep [3, 4, 14, 15] ?_; generalize hK : VS _ _ _ = KK; simp; try subst hK))
        | (refine VS.region tabOk (id := 22) [] (by kernel_rfl) ?_; generalize hK : VS _ _ _ = KK; simp [hF]; try subst hK; try (refine VS.keep [3, 4, 14, 15, 17] ?_; generalize hK : VS _ _ _ = KK; simp; try subst hK))
        | (refine VS.region tabOk (id := 23) [] (by kernel_rfl) ?_; generalize hK : VS _ _ _ = KK; simp [hF]; try subst hK; try (refine VS.keep [3, 4, 14, 95] ?_; generalize hK : VS _ _ _ = KK; simp; try subst hK))
        | (refine VS.region tabOk (id := 24) [] (by kernel_rfl) ?_; generalize hK : VS _ _ _ = KK; simp [hF]; try subst hK; try (refine VS.keep [2] ?_; generalize hK : VS _ _ _ = KK; simp; try subst hK))
        | (refine VS.region tabOk (id := 25) [(5, 101), (10, 106)] (by kernel_rfl) ?_; generalize hK : VS _ _ _ = KK; simp [hF]; try subst hK; try (refine VS.keep [2] ?_; generalize hK : VS _ _ _ = KK; simp; try subst hK))
        | (refine VS.cond ?_; generalize hK1 : VS _ _ _ = KK1; generalize hK2 : VS _ _ _ = KK2; simp [hF]; try subst hK1; try subst hK2)
      refine nextK.of [3, 4, 14] [0, 1, 2] (m' - 1) (by omega) (by simp [hF]) ?_
      refine ⟨p + 1, by omega, ?_⟩
      simp [dSp, dRSp]
      exact IntWalk.i64_in _ (by omega)
    · repeat first
        | refine VS.seq ?_
        | refine VS.skip ?_
        | refine VS.block ?_
        | refine VS.nil ?_
        | refine blockN_normal ?_
        | refine loopN_normal ?_
        | refine VS.exit ?_
        | refine blockN_hit ?_
        | refine blockN_miss (by decide) ?_
        | refine loopN_exit ?_
        | refine ⟨⟨by omega, by omega⟩, ?_⟩
        | (refine VS.region tabOk (id := 0) [] (by kernel_rfl) ?_; generalize hK : VS _ _ _ = KK; simp [hF]; try subst hK; try (refine VS.keep [0] ?_; generalize hK : VS _ _ _ = KK; simp; try subst hK))
        | (refine VS.region tabOk (id := 1) [] (by kernel_rfl) ?_; generalize hK : VS _ _ _ = KK; simp [hF]; try subst hK; try (refine VS.keep [0, 3, 4] ?_; generalize hK : VS _ _ _ = KK; simp; try subst hK))
        | (refine VS.region tabOk (id := 2) [] (by kernel_rfl) ?_; generalize hK : VS _ _ _ = KK; simp [hF]; try subst hK; try (refine VS.keep [0, 3, 4, 5] ?_; generalize hK : VS _ _ _ = KK; simp; try subst hK))
        | (refine VS.region tabOk (id := 3) [] (by kernel_rfl) ?_; generalize hK : VS _ _ _ = KK; simp [hF]; try subst hK; try (refine VS.keep [3, 4, 5, 6] ?_; generalize hK : VS _ _ _ = KK; simp; try subst hK))
        | (refine VS.region tabOk (id := 4) [] (by kernel_rfl) ?_; generalize hK : VS _ _ _ = KK; simp [hF]; try subst hK; try (refine VS.keep [3, 4, 5, 6, 7] ?_; generalize hK : VS _ _ _ = KK; simp; try subst hK))
        | (refine VS.region tabOk (id := 5) [] (by kernel_rfl) ?_; generalize hK : VS _ _ _ = KK; simp [hF]; try subst hK; try (refine VS.keep [3, 4, 5, 6, 7, 25] ?_; generalize hK : VS _ _ _ = KK; simp; try subst hK))
        | (refine VS.region tabOk (id := 6) [] (by kernel_rfl) ?_; generalize hK : VS _ _ _ = KK; simp [hF]; try subst hK; try (refine VS.keep [3, 4, 5, 6, 7] ?_; generalize hK : VS _ _ _ = KK; simp; try subst hK))
        | (refine VS.region tabOk (id := 7) [] (by kernel_rfl) ?_; generalize hK : VS _ _ _ = KK; simp [hF]; try subst hK; try (refine VS.keep [3, 4, 5, 6, 7, 9] ?_; generalize hK : VS _ _ _ = KK; simp; try subst hK))
        | (refine VS.region tabOk (id := 8) [] (by kernel_rfl) ?_; generalize hK : VS _ _ _ = KK; simp [hF]; try subst hK; try (refine VS.keep [3, 4, 5, 6, 7, 9, 11] ?_; generalize hK : VS _ _ _ = KK; simp; try subst hK))
        | (refine VS.region tabOk (id := 9) [(3, 41)] (by kernel_rfl) ?_; generalize hK : VS _ _ _ = KK; simp [hF]; try subst hK; try (refine VS.keep [3, 4, 5, 6, 7, 47] ?_; generalize hK : VS _ _ _ = KK; simp; try subst hK))
        | (refine VS.region tabOk (id := 10) [] (by kernel_rfl) ?_; generalize hK : VS _ _ _ = KK; simp [hF]; try subst hK; try (refine VS.keep [2] ?_; generalize hK : VS _ _ _ = KK; simp; try subst hK))
        | (refine VS.region tabOk (id := 11) [] (by kernel_rfl) ?_; generalize hK : VS _ _ _ = KK; simp [hF]; try subst hK; try (refine VS.keep [3, 4, 5, 6, 7, 12] ?_; generalize hK : VS _ _ _ = KK; simp; try subst hK))
        | (refine VS.region tabOk (id := 12) [(2, 50)] (by kernel_rfl) ?_; generalize hK : VS _ _ _ = KK; simp [hF]; try subst hK; try (refine VS.keep [3, 4, 5, 6, 7, 12, 53] ?_; generalize hK : VS _ _ _ = KK; simp; try subst hK))
        | (refine VS.region tabOk (id := 13) [] (by kernel_rfl) ?_; generalize hK : VS _ _ _ = KK; simp [hF]; try subst hK; try (refine VS.keep [3, 4, 5, 6, 7, 12] ?_; generalize hK : VS _ _ _ = KK; simp; try subst hK))
        | (refine VS.region tabOk (id := 14) [] (by kernel_rfl) ?_; generalize hK : VS _ _ _ = KK; simp [hF]; try subst hK; try (refine VS.keep [3, 4, 5, 6, 7, 12] ?_; generalize hK : VS _ _ _ = KK; simp; try subst hK))
        | (refine VS.region tabOk (id := 15) [] (by kernel_rfl) ?_; generalize hK : VS _ _ _ = KK; simp [hF]; try subst hK; try (refine VS.keep [3, 4, 5, 6, 7, 12, 13] ?_; generalize hK : VS _ _ _ = KK; simp; try subst hK))
        | (refine VS.region tabOk (id := 16) [] (by kernel_rfl) ?_; generalize hK : VS _ _ _ = KK; simp [hF]; try subst hK; try (refine VS.keep [3, 4, 5, 6, 7, 12, 76] ?_; generalize hK : VS _ _ _ = KK; simp; try subst hK))
        | (refine VS.region tabOk (id := 17) [] (by kernel_rfl) ?_; generalize hK : VS _ _ _ = KK; simp [hF]; try subst hK; try (refine VS.keep [2] ?_; generalize hK : VS _ _ _ = KK; simp; try subst hK))
        | (refine VS.region tabOk (id := 18) [] (by kernel_rfl) ?_; generalize hK : VS _ _ _ = KK; simp [hF]; try subst hK; try (refine VS.keep [3, 4, 14] ?_; generalize hK : VS _ _ _ = KK; simp; try subst hK))
        | (refine VS.region tabOk (id := 19) [] (by kernel_rfl) ?_; generalize hK : VS _ _ _ = KK; simp [hF]; try subst hK; try (refine VS.keep [3, 4, 14, 78] ?_; generalize hK : VS _ _ _ = KK; simp; try subst hK))
        | (refine VS.region tabOk (id := 20) [] (by kernel_rfl) ?_; generalize hK : VS _ _ _ = KK; simp [hF]; try subst hK; try (refine VS.keep [3, 4, 14] ?_; generalize hK : VS _ _ _ = KK; simp; try subst hK))
        | (refine VS.region tabOk (id := 21) [] (by kernel_rfl) ?_; generalize hK : VS _ _ _ = KK; simp [hF]; try subst hK; try (refine VS.keep [3, 4, 14, 15] ?_; generalize hK : VS _ _ _ = KK; simp; try subst hK))
        | (refine VS.region tabOk (id := 22) [] (by kernel_rfl) ?_; generalize hK : VS _ _ _ = KK; simp [hF]; try subst hK; try (refine VS.keep [3, 4, 14, 15, 17] ?_; generalize hK : VS _ _ _ = KK; simp; try subst hK))
        | (refine VS.region tabOk (id := 23) [] (by kernel_rfl) ?_; generalize hK : VS _ _ _ = KK; simp [hF]; try subst hK; try (refine VS.keep [3, 4, 14, 95] ?_; generalize hK : VS _ _ _ = KK; simp; try subst hK))
        | (refine VS.region tabOk (id := 24) [] (by kernel_rfl) ?_; generalize hK : VS _ _ _ = KK; simp [hF]; try subst hK; try (refine VS.keep [2] ?_; generalize hK : VS _ _ _ = KK; simp; try subst hK))
        | (refine VS.region tabOk (id := 25) [(5, 101), (10, 106)] (by kernel_rfl) ?_; generalize hK : VS _ _ _ = KK; simp [hF]; try subst hK; try (refine VS.keep [2] ?_; generalize hK : VS _ _ _ = KK; simp; try subst hK))
        | (refine VS.cond ?_; generalize hK1 : VS _ _ _ = KK1; generalize hK2 : VS _ _ _ = KK2; simp [hF]; try subst hK1; try subst hK2)
      refine (shapes_ok S).call [(0, [])] (by simp) (by simp [hF, dSp]) (by simp [hF, dSp]) (by simp [hF, dSp]) ?_
      rintro av X κ ⟨rfl, rfl, rfl⟩
      generalize hK : VS _ _ _ = KK; simp [hF, dSp]; try subst hK
      repeat first
        | refine VS.seq ?_
        | refine VS.skip ?_
        | refine VS.block ?_
        | refine VS.nil ?_
        | refine blockN_normal ?_
        | refine loopN_normal ?_
        | refine VS.exit ?_
        | refine blockN_hit ?_
        | refine blockN_miss (by decide) ?_
        | refine loopN_exit ?_
        | refine ⟨⟨by omega, by omega⟩, ?_⟩
        | (refine VS.region tabOk (id := 0) [] (by kernel_rfl) ?_; generalize hK : VS _ _ _ = KK; simp [hF]; try subst hK; try (refine VS.keep [0] ?_; generalize hK : VS _ _ _ = KK; simp; try subst hK))
        | (refine VS.region tabOk (id := 1) [] (by kernel_rfl) ?_; generalize hK : VS _ _ _ = KK; simp [hF]; try subst hK; try (refine VS.keep [0, 3, 4] ?_; generalize hK : VS _ _ _ = KK; simp; try subst hK))
        | (refine VS.region tabOk (id := 2) [] (by kernel_rfl) ?_; generalize hK : VS _ _ _ = KK; simp [hF]; try subst hK; try (refine VS.keep [0, 3, 4, 5] ?_; generalize hK : VS _ _ _ = KK; simp; try subst hK))
        | (refine VS.region tabOk (id := 3) [] (by kernel_rfl) ?_; generalize hK : VS _ _ _ = KK; simp [hF]; try subst hK; try (refine VS.keep [3, 4, 5, 6] ?_; generalize hK : VS _ _ _ = KK; simp; try subst hK))
        | (refine VS.region tabOk (id := 4) [] (by kernel_rfl) ?_; generalize hK : VS _ _ _ = KK; simp [hF]; try subst hK; try (refine VS.keep [3, 4, 5, 6, 7] ?_; generalize hK : VS _ _ _ = KK; simp; try subst hK))
        | (refine VS.region tabOk (id := 5) [] (by kernel_rfl) ?_; generalize hK : VS _ _ _ = KK; simp [hF]; try subst hK; try (refine VS.keep [3, 4, 5, 6, 7, 25] ?_; generalize hK : VS _ _ _ = KK; simp; try subst hK))
        | (refine VS.region tabOk (id := 6) [] (by kernel_rfl) ?_; generalize hK : VS _ _ _ = KK; simp [hF]; try subst hK; try (refine VS.keep [3, 4, 5, 6, 7] ?_; generalize hK : VS _ _ _ = KK; simp; try subst hK))
        | (refine VS.region tabOk (id := 7) [] (by kernel_rfl) ?_; generalize hK : VS _ _ _ = KK; simp [hF]; try subst hK; try (refine VS.keep [3, 4, 5, 6, 7, 9] ?_; generalize hK : VS _ _ _ = KK; simp; try subst hK))
        | (refine VS.region tabOk (id := 8) [] (by kernel_rfl) ?_; generalize hK : VS _ _ _ = KK; simp [hF]; try subst hK; try (refine VS.keep [3, 4, 5, 6, 7, 9, 11] ?_; generalize hK : VS _ _ _ = KK; simp; try subst hK))
        | (refine VS.region tabOk (id := 9) [(3, 41)] (by kernel_rfl) ?_; generalize hK : VS _ _ _ = KK; simp [hF]; try subst hK; try (refine VS.keep [3, 4, 5, 6, 7, 47] ?_; generalize hK : VS _ _ _ = KK; simp; try subst hK))
        | (refine VS.region tabOk (id := 10) [] (by kernel_rfl) ?_; generalize hK : VS _ _ _ = KK; simp [hF]; try subst hK; try (refine VS.keep [2] ?_; generalize hK : VS _ _ _ = KK; simp; try subst hK))
        | (refine VS.region tabOk (id := 11) [] (by kernel_rfl) ?_; generalize hK : VS _ _ _ = KK; simp [hF]; try subst hK; try (refine VS.keep [3, 4, 5, 6, 7, 12] ?_; generalize hK : VS _ _ _ = KK; simp; try subst hK))
        | (refine VS.region tabOk (id := 12) [(2, 50)] (by kernel_rfl) ?_; generalize hK : VS _ _ _ = KK; simp [hF]; try subst hK; try (refine VS.keep [3, 4, 5, 6, 7, 12, 53] ?_; generalize hK : VS _ _ _ = KK; simp; try subst hK))
        | (refine VS.region tabOk (id := 13) [] (by kernel_rfl) ?_; generalize hK : VS _ _ _ = KK; simp [hF]; try subst hK; try (refine VS.keep [3, 4, 5, 6, 7, 12] ?_; generalize hK : VS _ _ _ = KK; simp; try subst hK))
        | (refine VS.region tabOk (id := 14) [] (by kernel_rfl) ?_; generalize hK : VS _ _ _ = KK; simp [hF]; try subst hK; try (refine VS.keep [3, 4, 5, 6, 7, 12] ?_; generalize hK : VS _ _ _ = KK; simp; try subst hK))
        | (refine VS.region tabOk (id := 15) [] (by kernel_rfl) ?_; generalize hK : VS _ _ _ = KK; simp [hF]; try subst hK; try (refine VS.keep [3, 4, 5, 6, 7, 12, 13] ?_; generalize hK : VS _ _ _ = KK; simp; try subst hK))
        | (refine VS.region tabOk (id := 16) [] (by kernel_rfl) ?_; generalize hK : VS _ _ _ = KK; simp [hF]; try subst hK; try (refine VS.keep [3, 4, 5, 6, 7, 12, 76] ?_; generalize hK : VS _ _ _ = KK; simp; try subst hK))
        | (refine VS.region tabOk (id := 17) [] (by kernel_rfl) ?_; generalize hK : VS _ _ _ = KK; simp [hF]; try subst hK; try (refine VS.keep [2] ?_; generalize hK : VS _ _ _ = KK; simp; try subst hK))
        | (refine VS.region tabOk (id := 18) [] (by kernel_rfl) ?_; generalize hK : VS _ _ _ = KK; simp [hF]; try subst hK; try (refine VS.keep [3, 4, 14] ?_; generalize hK : VS _ _ _ = KK; simp; try subst hK))
        | (refine VS.region tabOk (id := 19) [] (by kernel_rfl) ?_; generalize hK : VS _ _ _ = KK; simp [hF]; try subst hK; try (refine VS.keep [3, 4, 14, 78] ?_; generalize hK : VS _ _ _ = KK; simp; try subst hK))
        | (refine VS.region tabOk (id := 20) [] (by kernel_rfl) ?_; generalize hK : VS _ _ _ = KK; simp [hF]; try subst hK; try (refine VS.keep [3, 4, 14] ?_; generalize hK : VS _ _ _ = KK; simp; try subst hK))
        | (refine VS.region tabOk (id := 21) [] (by kernel_rfl) ?_; generalize hK : VS _ _ _ = KK; simp [hF]; try subst hK; try (refine VS.keep [3, 4, 14, 15] ?_; generalize hK : VS _ _ _ = KK; simp; try subst hK))
        | (refine VS.region tabOk (id := 22) [] (by kernel_rfl) ?_; generalize hK : VS _ _ _ = KK; simp [hF]; try subst hK; try (refine VS.keep [3, 4, 14, 15, 17] ?_; generalize hK : VS _ _ _ = KK; simp; try subst hK))
        | (refine VS.region tabOk (id := 23) [] (by kernel_rfl) ?_; generalize hK : VS _ _ _ = KK; simp [hF]; try subst hK; try (refine VS.keep [3, 4, 14, 95] ?_; generalize hK : VS _ _ _ = KK; simp; try subst hK))
        | (refine VS.region tabOk (id := 24) [] (by kernel_rfl) ?_; generalize hK : VS _ _ _ = KK; simp [hF]; try subst hK; try (refine VS.keep [2] ?_; generalize hK : VS _ _ _ = KK; simp; try subst hK))
        | (refine VS.region tabOk (id := 25) [(5, 101), (10, 106)] (by kernel_rfl) ?_; generalize hK : VS _ _ _ = KK; simp [hF]; try subst hK; try (refine VS.keep [2] ?_; generalize hK : VS _ _ _ = KK; simp; try subst hK))
        | (refine VS.cond ?_; generalize hK1 : VS _ _ _ = KK1; generalize hK2 : VS _ _ _ = KK2; simp [hF]; try subst hK1; try subst hK2)
      refine (rshapes_ok S).call [(1, [])] (by simp) (by simp [hF, dRSp]) (by simp [hF, dRSp]) (by simp [hF, dRSp]) ?_
      rintro av X κ ⟨rfl, rfl, rfl⟩
      generalize hK : VS _ _ _ = KK; simp [hF, dRSp]; try subst hK
      have hns := hwf.sh.ns
      have hns' : shapesOf S ≤ 200 := by simp only [shapesOf]; omega
      repeat first
        | refine VS.seq ?_
        | refine VS.skip ?_
        | refine VS.block ?_
        | refine VS.nil ?_
        | refine blockN_normal ?_
        | refine loopN_normal ?_
        | refine VS.exit ?_
        | refine blockN_hit ?_
        | refine blockN_miss (by decide) ?_
        | refine loopN_exit ?_
        | refine ⟨⟨by omega, by omega⟩, ?_⟩
        | (refine VS.region tabOk (id := 0) [] (by kernel_rfl) ?_; generalize hK : VS _ _ _ = KK; simp [hF]; try subst hK; try (refine VS.keep [0] ?_; generalize hK : VS _ _ _ = KK; simp; try subst hK))
        | (refine VS.region tabOk (id := 1) [] (by kernel_rfl) ?_; generalize hK : VS _ _ _ = KK; simp [hF]; try subst hK; try (refine VS.keep [0, 3, 4] ?_; generalize hK : VS _ _ _ = KK; simp; try subst hK))
        | (refine VS.region tabOk (id := 2) [] (by kernel_rfl) ?_; generalize hK : VS _ _ _ = KK; simp [hF]; try subst hK; try (refine VS.keep [0, 3, 4, 5] ?_; generalize hK : VS _ _ _ = KK; simp; try subst hK))
        | (refine VS.region tabOk (id := 3) [] (by kernel_rfl) ?_; generalize hK : VS _ _ _ = KK; simp [hF]; try subst hK; try (refine VS.keep [3, 4, 5, 6] ?_; generalize hK : VS _ _ _ = KK; simp; try subst hK))
        | (refine VS.region tabOk (id := 4) [] (by kernel_rfl) ?_; generalize hK : VS _ _ _ = KK; simp [hF]; try subst hK; try (refine VS.keep [3, 4, 5, 6, 7] ?_; generalize hK : VS _ _ _ = KK; simp; try subst hK))
        | (refine VS.region tabOk (id := 5) [] (by kernel_rfl) ?_; generalize hK : VS _ _ _ = KK; simp [hF]; try subst hK; try (refine VS.keep [3, 4, 5, 6, 7, 25] ?_; generalize hK : VS _ _ _ = KK; simp; try subst hK))
        | (refine VS.region tabOk (id := 6) [] (by kernel_rfl) ?_; generalize hK : VS _ _ _ = KK; simp [hF]; try subst hK; try (refine VS.keep [3, 4, 5, 6, 7] ?_; generalize hK : VS _ _ _ = KK; simp; try subst hK))
        | (refine VS.region tabOk (id := 7) [] (by kernel_rfl) ?_; generalize hK : VS _ _ _ = KK; simp [hF]; try subst hK; try (refine VS.keep [3, 4, 5, 6, 7, 9] ?_; generalize hK : VS _ _ _ = KK; simp; try subst hK))
        | (refine VS.region tabOk (id := 8) [] (by kernel_rfl) ?_; generalize hK : VS _ _ _ = KK; simp [hF]; try subst hK; try (refine VS.keep [3, 4, 5, 6, 7, 9, 11] ?_; generalize hK : VS _ _ _ = KK; simp; try subst hK))
        | (refine VS.region tabOk (id := 9) [(3, 41)] (by kernel_rfl) ?_; generalize hK : VS _ _ _ = KK; simp [hF]; try subst hK; try (refine VS.keep [3, 4, 5, 6, 7, 47] ?_; generalize hK : VS _ _ _ = KK; simp; try subst hK))
        | (refine VS.region tabOk (id := 10) [] (by kernel_rfl) ?_; generalize hK : VS _ _ _ = KK; simp [hF]; try subst hK; try (refine VS.keep [2] ?_; generalize hK : VS _ _ _ = KK; simp; try subst hK))
        | (refine VS.region tabOk (id := 11) [] (by kernel_rfl) ?_; generalize hK : VS _ _ _ = KK; simp [hF]; try subst hK; try (refine VS.keep [3, 4, 5, 6, 7, 12] ?_; generalize hK : VS _ _ _ = KK; simp; try subst hK))
        | (refine VS.region tabOk (id := 12) [(2, 50)] (by kernel_rfl) ?_; generalize hK : VS _ _ _ = KK; simp [hF]; try subst hK; try (refine VS.keep [3, 4, 5, 6, 7, 12, 53] ?_; generalize hK : VS _ _ _ = KK; simp; try subst hK))
        | (refine VS.region tabOk (id := 13) [] (by kernel_rfl) ?_; generalize hK : VS _ _ _ = KK; simp [hF]; try subst hK; try (refine VS.keep [3, 4, 5, 6, 7, 12] ?_; generalize hK : VS _ _ _ = KK; simp; try subst hK))
        | (refine VS.region tabOk (id := 14) [] (by kernel_rfl) ?_; generalize hK : VS _ _ _ = KK; simp [hF]; try subst hK; try (refine VS.keep [3, 4, 5, 6, 7, 12] ?_; generalize hK : VS _ _ _ = KK; simp; try subst hK))
        | (refine VS.region tabOk (id := 15) [] (by kernel_rfl) ?_; generalize hK : VS _ _ _ = KK; simp [hF]; try subst hK; try (refine VS.keep [3, 4, 5, 6, 7, 12, 13] ?_; generalize hK : VS _ _ _ = KK; simp; try subst hK))
        | (refine VS.region tabOk (id := 16) [] (by kernel_rfl) ?_; generalize hK : VS _ _ _ = KK; simp [hF]; try subst hK; try (refine VS.keep [3, 4, 5, 6, 7, 12, 76] ?_; generalize hK : VS _ _ _ = KK; simp; try subst hK))
        | (refine VS.region tabOk (id := 17) [] (by kernel_rfl) ?_; generalize hK : VS _ _ _ = KK; simp [hF]; try subst hK; try (refine VS.keep [2] ?_; generalize hK : VS _ _ _ = KK; simp; try subst hK))
        | (refine VS.region tabOk (id := 18) [] (by kernel_rfl) ?_; generalize hK : VS _ _ _ = KK; simp [hF]; try subst hK; try (refine VS.keep [3, 4, 14] ?_; generalize hK : VS _ _ _ = KK; simp; try subst hK))
        | (refine VS.region tabOk (id := 19) [] (by kernel_rfl) ?_; generalize hK : VS _ _ _ = KK; simp [hF]; try subst hK; try (refine VS.keep [3, 4, 14, 78] ?_; generalize hK : VS _ _ _ = KK; simp; try subst hK))
        | (refine VS.region tabOk (id := 20) [] (by kernel_rfl) ?_; generalize hK : VS _ _ _ = KK; simp [hF]; try subst hK; try (refine VS.keep [3, 4, 14] ?_; generalize hK : VS _ _ _ = KK; simp; try subst hK))
        | (refine VS.region tabOk (id := 21) [] (by kernel_rfl) ?_; generalize hK : VS _ _ _ = KK; simp [hF]; try subst hK; try (refine VS.keep [3, 4, 14, 15] ?_; generalize hK : VS _ _ _ = KK; simp; try subst hK))
        | (refine VS.region tabOk (id := 22) [] (by kernel_rfl) ?_; generalize hK : VS _ _ _ = KK; simp [hF]; try subst hK; try (refine VS.keep [3, 4, 14, 15, 17] ?_; generalize hK : VS _ _ _ = KK; simp; try subst hK))
        | (refine VS.region tabOk (id := 23) [] (by kernel_rfl) ?_; generalize hK : VS _ _ _ = KK; simp [hF]; try subst hK; try (refine VS.keep [3, 4, 14, 95] ?_; generalize hK : VS _ _ _ = KK; simp; try subst hK))
        | (refine VS.region tabOk (id := 24) [] (by kernel_rfl) ?_; generalize hK : VS _ _ _ = KK; simp [hF]; try subst hK; try (refine VS.keep [2] ?_; generalize hK : VS _ _ _ = KK; simp; try subst hK))
        | (refine VS.region tabOk (id := 25) [(5, 101), (10, 106)] (by kernel_rfl) ?_; generalize hK : VS _ _ _ = KK; simp [hF]; try subst hK; try (refine VS.keep [2] ?_; generalize hK : VS _ _ _ = KK; simp; try subst hK))
        | (refine VS.cond ?_; generalize hK1 : VS _ _ _ = KK1; generalize hK2 : VS _ _ _ = KK2; simp [hF]; try subst hK1; try subst hK2)
      refine (shapes_ok S).call [(0, [])] (by simp) (by simp [hF, dSp, hns']) (by simp [hF, dSp, hns']) (by simp [hF, dSp, hns']) ?_
      rintro av X κ ⟨rfl, rfl, rfl⟩
      generalize hK : VS _ _ _ = KK; simp [hF, dSp, hns']; try subst hK
      repeat first
        | refine VS.seq ?_
        | refine VS.skip ?_
        | refine VS.block ?_
        | refine VS.nil ?_
        | refine blockN_normal ?_
        | refine loopN_normal ?_
        | refine VS.exit ?_
        | refine blockN_hit ?_
        | refine blockN_miss (by decide) ?_
        | refine loopN_exit ?_
        | refine ⟨⟨by omega, by omega⟩, ?_⟩
        | (refine VS.region tabOk (id := 0) [] (by kernel_rfl) ?_; generalize hK : VS _ _ _ = KK; simp [hF]; try subst hK; try (refine VS.keep [0] ?_; generalize hK : VS _ _ _ = KK; simp; try subst hK))
        | (refine VS.region tabOk (id := 1) [] (by kernel_rfl) ?_; generalize hK : VS _ _ _ = KK; simp [hF]; try subst hK; try (refine VS.keep [0, 3, 4] ?_; generalize hK : VS _ _ _ = KK; simp; try subst hK))
        | (refine VS.region tabOk (id := 2) [] (by kernel_rfl) ?_; generalize hK : VS _ _ _ = KK; simp [hF]; try subst hK; try (refine VS.keep [0, 3, 4, 5] ?_; generalize hK : VS _ _ _ = KK; simp; try subst hK))
        | (refine VS.region tabOk (id := 3) [] (by kernel_rfl) ?_; generalize hK : VS _ _ _ = KK; simp [hF]; try subst hK; try (refine VS.keep [3, 4, 5, 6] ?_; generalize hK : VS _ _ _ = KK; simp; try subst hK))
        | (refine VS.region tabOk (id := 4) [] (by kernel_rfl) ?_; generalize hK : VS _ _ _ = KK; simp [hF]; try subst hK; try (refine VS.keep [3, 4, 5, 6, 7] ?_; generalize hK : VS _ _ _ = KK; simp; try subst hK))
        | (refine VS.region tabOk (id := 5) [] (by kernel_rfl) ?_; generalize hK : VS _ _ _ = KK; simp [hF]; try subst hK; try (refine VS.keep [3, 4, 5, 6, 7, 25] ?_; generalize hK : VS _ _ _ = KK; simp; try subst hK))
        | (refine VS.region tabOk (id := 6) [] (by kernel_rfl) ?_; generalize hK : VS _ _ _ = KK; simp [hF]; try subst hK; try (refine VS.keep [3, 4, 5, 6, 7] ?_; generalize hK : VS _ _ _ = KK; simp; try subst hK))
        | (refine VS.region tabOk (id := 7) [] (by kernel_rfl) ?_; generalize hK : VS _ _ _ = KK; simp [hF]; try subst hK; try (refine VS.keep [3, 4, 5, 6, 7, 9] ?_; generalize hK : VS _ _ _ = KK; simp; try subst hK))
        | (refine VS.region tabOk (id := 8) [] (by kernel_rfl) ?_; generalize hK : VS _ _ _ = KK; simp [hF]; try subst hK; try (refine VS.keep [3, 4, 5, 6, 7, 9, 11] ?_; generalize hK : VS _ _ _ = KK; simp; try subst hK))
        | (refine VS.region tabOk (id := 9) [(3, 41)] (by kernel_rfl) ?_; generalize hK : VS _ _ _ = KK; simp [hF]; try subst hK; try (refine VS.keep [3, 4, 5, 6, 7, 47] ?_; generalize hK : VS _ _ _ = KK; simp; try subst hK))
        | (refine VS.region tabOk (id := 10) [] (by kernel_rfl) ?_; generalize hK : VS _ _ _ = KK; simp [hF]; try subst hK; try (refine VS.keep [2] ?_; generalize hK : VS _ _ _ = KK; simp; try subst hK))
        | (refine VS.region tabOk (id := 11) [] (by kernel_rfl) ?_; generalize hK : VS _ _ _ = KK; simp [hF]; try subst hK; try (refine VS.keep [3, 4, 5, 6, 7, 12] ?_; generalize hK : VS _ _ _ = KK; simp; try subst hK))
        | (refine VS.region tabOk (id := 12) [(2, 50)] (by kernel_rfl) ?_; generalize hK : VS _ _ _ = KK; simp [hF]; try subst hK; try (refine VS.keep [3, 4, 5, 6, 7, 12, 53] ?_; generalize hK : VS _ _ _ = KK; simp; try subst hK))
        | (refine VS.region tabOk (id := 13) [] (by kernel_rfl) ?_; generalize hK : VS _ _ _ = KK; simp [hF]; try subst hK; try (refine VS.keep [3, 4, 5, 6, 7, 12] ?_; generalize hK : VS _ _ _ = KK; simp; try subst hK))
        | (refine VS.region tabOk (id := 14) [] (by kernel_rfl) ?_; generalize hK : VS _ _ _ = KK; simp [hF]; try subst hK; try (refine VS.keep [3, 4, 5, 6, 7, 12] ?_; generalize hK : VS _ _ _ = KK; simp; try subst hK))
        | (refine VS.region tabOk (id := 15) [] (by kernel_rfl) ?_; generalize hK : VS _ _ _ = KK; simp [hF]; try subst hK; try (refine VS.keep [3, 4, 5, 6, 7, 12, 13] ?_; generalize hK : VS _ _ _ = KK; simp; try subst hK))
        | (refine VS.region tabOk (id := 16) [] (by kernel_rfl) ?_; generalize hK : VS _ _ _ = KK; simp [hF]; try subst hK; try (refine VS.keep [3, 4, 5, 6, 7, 12, 76] ?_; generalize hK : VS _ _ _ = KK; simp; try subst hK))
        | (refine VS.region tabOk (id := 17) [] (by kernel_rfl) ?_; generalize hK : VS _ _ _ = KK; simp [hF]; try subst hK; try (refine VS.keep [2] ?_; generalize hK : VS _ _ _ = KK; simp; try subst hK))
        | (refine VS.region tabOk (id := 18) [] (by kernel_rfl) ?_; generalize hK : VS _ _ _ = KK; simp [hF]; try subst hK; try (refine VS.keep [3, 4, 14] ?_; generalize hK : VS _ _ _ = KK; simp; try subst hK))
        | (refine VS.region tabOk (id := 19) [] (by kernel_rfl) ?_; generalize hK : VS _ _ _ = KK; simp [hF]; try subst hK; try (refine VS.keep [3, 4, 14, 78] ?_; generalize hK : VS _ _ _ = KK; simp; try subst hK))
        | (refine VS.region tabOk (id := 20) [] (by kernel_rfl) ?_; generalize hK : VS _ _ _ = KK; simp [hF]; try subst hK; try (refine VS.keep [3, 4, 14] ?_; generalize hK : VS _ _ _ = KK; simp; try subst hK))
        | (refine VS.region tabOk (id := 21) [] (by kernel_rfl) ?_; generalize hK : VS _ _ _ = KK; simp [hF]; try subst hK; try (refine VS.keep [3, 4, 14, 15] ?_; generalize hK : VS _ _ _ = KK; simp; try subst hK))
        | (refine VS.region tabOk (id := 22) [] (by kernel_rfl) ?_; generalize hK : VS _ _ _ = KK; simp [hF]; try subst hK; try (refine VS.keep [3, 4, 14, 15, 17] ?_; generalize hK : VS _ _ _ = KK; simp; try subst hK))
        | (refine VS.region tabOk (id := 23) [] (by kernel_rfl) ?_; generalize hK : VS _ _ _ = KK; simp [hF]; try subst hK; try (refine VS.keep [3, 4, 14, 95] ?_; generalize hK : VS _ _ _ = KK; simp; try subst hK))
        | (refine VS.region tabOk (id := 24) [] (by kernel_rfl) ?_; generalize hK : VS _ _ _ = KK; simp [hF]; try subst hK; try (refine VS.keep [2] ?_; generalize hK : VS _ _ _ = KK; simp; try subst hK))
        | (refine VS.region tabOk (id := 25) [(5, 101), (10, 106)] (by kernel_rfl) ?_; generalize hK : VS _ _ _ = KK; simp [hF]; try subst hK; try (refine VS.keep [2] ?_; generalize hK : VS _ _ _ = KK; simp; try subst hK))
        | (refine VS.cond ?_; generalize hK1 : VS _ _ _ = KK1; generalize hK2 : VS _ _ _ = KK2; simp [hF]; try subst hK1; try subst hK2)
      refine (sane_ok).call [] (by simp) (by simp [hF]) (by simp [hF]) (by simp [hF]) ?_
      rintro av X κ ⟨rfl, rfl, rfl⟩
      generalize hK : VS _ _ _ = KK; simp [hF]; try subst hK
      repeat first
        | refine VS.seq ?_
        | refine VS.skip ?_
        | refine VS.block ?_
        | refine VS.nil ?_
        | refine blockN_normal ?_
        | refine loopN_normal ?_
        | refine VS.exit ?_
        | refine blockN_hit ?_
        | refine blockN_miss (by decide) ?_
        | refine loopN_exit ?_
        | refine ⟨⟨by omega, by omega⟩, ?_⟩
        | (refine VS.region tabOk (id := 0) [] (by kernel_rfl) ?_; generalize hK : VS _ _ _ = KK; simp [hF]; try subst hK; try (refine VS.keep [0] ?_; generalize hK : VS _ _ _ = KK; simp; try subst hK))
        | (refine VS.region tabOk (id := 1) [] (by kernel_rfl) ?_; generalize hK : VS _ _ _ = KK; simp [hF]; try subst hK; try (refine VS.keep [0, 3, 4] ?_; generalize hK : VS _ _ _ = KK; simp; try subst hK))
        | (refine VS.region tabOk (id := 2) [] (by kernel_rfl) ?_; generalize hK : VS _ _ _ = KK; simp [hF]; try subst hK; try (refine VS.keep [0, 3, 4, 5] ?_; generalize hK : VS _ _ _ = KK; simp; try subst hK))
        | (refine VS.region tabOk (id := 3) [] (by kernel_rfl) ?_; generalize hK : VS _ _ _ = KK; simp [hF]; try subst hK; try (refine VS.keep [3, 4, 5, 6] ?_; generalize hK : VS _ _ _ = KK; simp; try subst hK))
        | (refine VS.region tabOk (id := 4) [] (by kernel_rfl) ?_; generalize hK : VS _ _ _ = KK; simp [hF]; try subst hK; try (refine VS.keep [3, 4, 5, 6, 7] ?_; generalize hK : VS _ _ _ = KK; simp; try subst hK))
        | (refine VS.region tabOk (id := 5) [] (by kernel_rfl) ?_; generalize hK : VS _ _ _ = KK; simp [hF]; try subst hK; try (refine VS.keep [3, 4, 5, 6, 7, 25] ?_; generalize hK : VS _ _ _ = KK; simp; try subst hK))
        | (refine VS.region tabOk (id := 6) [] (by kernel_rfl) ?_; generalize hK : VS _ _ _ = KK; simp [hF]; try subst hK; try (refine VS.keep [3, 4, 5, 6, 7] ?_; generalize hK : VS _ _ _ = KK; simp; try subst hK))
        | (refine VS.region tabOk (id := 7) [] (by kernel_rfl) ?_; generalize hK : VS _ _ _ = KK; simp [hF]; try subst hK; try (refine VS.keep [3, 4, 5, 6, 7, 9] ?_; generalize hK : VS _ _ _ = KK; simp; try subst hK))
        | (refine VS.region tabOk (id := 8) [] (by kernel_rfl) ?_; generalize hK : VS _ _ _ = KK; simp [hF]; try subst hK; try (refine VS.keep [3, 4, 5, 6, 7, 9, 11] ?_; generalize hK : VS _ _ _ = KK; simp; try subst hK))
        | (refine VS.region tabOk (id := 9) [(3, 41)] (by kernel_rfl) ?_; generalize hK : VS _ _ _ = KK; simp [hF]; try subst hK; try (refine VS.keep [3, 4, 5, 6, 7, 47] ?_; generalize hK : VS _ _ _ = KK; simp; try subst hK))
        | (refine VS.region tabOk (id := 10) [] (by kernel_rfl) ?_; generalize hK : VS _ _ _ = KK; simp [hF]; try subst hK; try (refine VS.keep [2] ?_; generalize hK : VS _ _ _ = KK; simp; try subst hK))
        | (refine VS.region tabOk (id := 11) [] (by kernel_rfl) ?_; generalize hK : VS _ _ _ = KK; simp [hF]; try subst hK; try (refine VS.keep [3, 4, 5, 6, 7, 12] ?_; generalize hK : VS _ _ _ = KK; simp; try subst hK))
        | (refine VS.region tabOk (id := 12) [(2, 50)] (by kernel_rfl) ?_; generalize hK : VS _ _ _ = KK; simp [hF]; try subst hK; try (refine VS.keep [3, 4, 5, 6, 7, 12, 53] ?_; generalize hK : VS _ _ _ = KK; simp; try subst hK))
        | (refine VS.region tabOk (id := 13) [] (by kernel_rfl) ?_; generalize hK : VS _ _ _ = KK; simp [hF]; try subst hK; try (refine VS.keep [3, 4, 5, 6, 7, 12] ?_; generalize hK : VS _ _ _ = KK; simp; try subst hK))
        | (refine VS.region tabOk (id := 14) [] (by kernel_rfl) ?_; generalize hK : VS _ _ _ = KK; simp [hF]; try subst hK; try (refine VS.keep [3, 4, 5, 6, 7, 12] ?_; generalize hK : VS _ _ _ = KK; simp; try subst hK))
        | (refine VS.region tabOk (id := 15) [] (by kernel_rfl) ?_; generalize hK : VS _ _ _ = KK; simp [hF]; try subst hK; try (refine VS.keep [3, 4, 5, 6, 7, 12, 13] ?_; generalize hK : VS _ _ _ = KK; simp; try subst hK))
        | (refine VS.region tabOk (id := 16) [] (by kernel_rfl) ?_; generalize hK : VS _ _ _ = KK; simp [hF]; try subst hK; try (refine VS.keep [3, 4, 5, 6, 7, 12, 76] ?_; generalize hK : VS _ _ _ = KK; simp; try subst hK))
        | (refine VS.region tabOk (id := 17) [] (by kernel_rfl) ?_; generalize hK : VS _ _ _ = KK; simp [hF]; try subst hK; try (refine VS.keep [2] ?_; generalize hK : VS _ _ _ = KK; simp; try subst hK))
        | (refine VS.region tabOk (id := 18) [] (by kernel_rfl) ?_; generalize hK : VS _ _ _ = KK; simp [hF]; try subst hK; try (refine VS.keep [3, 4, 14] ?_; generalize hK : VS _ _ _ = KK; simp; try subst hK))
        | (refine VS.region tabOk (id := 19) [] (by kernel_rfl) ?_; generalize hK : VS _ _ _ = KK; simp [hF]; try subst hK; try (refine VS.keep [3, 4, 14, 78] ?_; generalize hK : VS _ _ _ = KK; simp; try subst hK))
        | (refine VS.region tabOk (id := 20) [] (by kernel_rfl) ?_; generalize hK : VS _ _ _ = KK; simp [hF]; try subst hK; try (refine VS.keep [3, 4, 14] ?_; generalize hK : VS _ _ _ = KK; simp; try subst hK))
        | (refine VS.region tabOk (id := 21) [] (by kernel_rfl) ?_; generalize hK : VS _ _ _ = KK; simp [hF]; try subst hK; try (refine VS.keep [3, 4, 14, 15] ?_; generalize hK : VS _ _ _ = KK; simp; try subst hK))
        | (refine VS.region tabOk (id := 22) [] (by kernel_rfl) ?_; generalize hK : VS _ _ _ = KK; simp [hF]; try subst hK; try (refine VS.keep [3, 4, 14, 15, 17] ?_; generalize hK : VS _ _ _ = KK; simp; try subst hK))
        | (refine VS.region tabOk (id := 23) [] (by kernel_rfl) ?_; generalize hK : VS _ _ _ = KK; simp [hF]; try subst hK; try (refine VS.keep [3, 4, 14, 95] ?_; generalize hK : VS _ _ _ = KK; simp; try subst hK))
        | (refine VS.region tabOk (id := 24) [] (by kernel_rfl) ?_; generalize hK : VS _ _ _ = KK; simp [hF]; try subst hK; try (refine VS.keep [2] ?_; generalize hK : VS _ _ _ = KK; simp; try subst hK))
        | (refine VS.region tabOk (id := 25) [(5, 101), (10, 106)] (by kernel_rfl) ?_; generalize hK : VS _ _ _ = KK; simp [hF]; try subst hK; try (refine VS.keep [2] ?_; generalize hK : VS _ _ _ = KK; simp; try subst hK))
        | (refine VS.cond ?_; generalize hK1 : VS _ _ _ = KK1; generalize hK2 : VS _ _ _ = KK2; simp [hF]; try subst hK1; try subst hK2)
      try refine VS.ret ?_
      repeat first | refine blockN_ret ?_ | refine loopN_ret ?_
      refine endK.of [2] [] [] (by simp [hF]) (by simp [covers, mpre]) ?_
      simp [hF, retK]
end Go.Proofs.Ythcndkpkkaphoaa
