/- What every law asks beside: a fixed example; the names. -/
import Derived.Test.YthcndkpkkaphoaaGc
namespace Go.Proofs.Ythcndkpkkaphoaa
set_option linter.all false
open Go.Vc Go.Proofs
set_option linter.unusedSimpArgs false
set_option maxRecDepth 100000
set_option maxHeartbeats 4000000
attribute [local irreducible] CallW EqK

def lnames : List ByteArray := [⟨#[97]⟩, ⟨#[98]⟩, ⟨#[99]⟩, ⟨#[100]⟩, ⟨#[101]⟩, ⟨#[102]⟩, ⟨#[103]⟩, ⟨#[104]⟩, ⟨#[105]⟩, ⟨#[106]⟩, ⟨#[107]⟩, ⟨#[108]⟩, ⟨#[109]⟩, ⟨#[110]⟩, ⟨#[111]⟩]

/- cabochon/cabochonlaw20.names -/
theorem lnames_ok : Meets Try.prog 14 [] .nil fun av X κ => av = .sub 0 [] 0 15 true ∧ X = [.sl true () 1 (dStrs lnames)] ∧ κ = [] := by
  refine Meets.of_vs tabOk Try.func14 (body := ?_) ?_ (by kernel_rfl) Try.ntmps14 (rs := [.tmp 0]) (by kernel_rfl) rfl (by simp [AV.len]) (by simp only [envOf]; exact rfl) ?_
  rotate_left
  · rfl
  intro w0 I0 F0 hF
  repeat first
    | refine VS.seq ?_
    | refine VS.skip ?_
    | refine VS.block ?_
    | refine VS.nil ?_
    | refine blockN_normal ?_
    | refine loopN_normal ?_
    | refine VS.exit ?_
    | refine blockN_hit ?_
    | refine blockN_miss (by decide) ?_
    | refine loopN_exit ?_
    | refine ⟨⟨by omega, by omega⟩, ?_⟩
    | (refine VS.region tabOk (id := 0) [] (by kernel_rfl) ?_; generalize hK : VS _ _ _ = KK; simp [hF]; try subst hK; try (refine VS.keep [] ?_; generalize hK : VS _ _ _ = KK; simp; try subst hK))
    | (refine VS.region tabOk (id := 1) [] (by kernel_rfl) ?_; generalize hK : VS _ _ _ = KK; simp [hF]; try subst hK; try (refine VS.keep [0] ?_; generalize hK : VS _ _ _ = KK; simp; try subst hK))
    | (refine VS.cond ?_; generalize hK1 : VS _ _ _ = KK1; generalize hK2 : VS _ _ _ = KK2; simp [hF]; try subst hK1; try subst hK2)
  try refine VS.ret ?_
  repeat first | refine blockN_ret ?_ | refine loopN_ret ?_
  refine endK.of [0] [0] [] (by simp [hF]) (by simp [covers, mpre]) ?_
  simp [hF, retK]
  rfl

def sp1 : Sp := ⟨[⟨-1, []⟩], [⟨0, [], [], false⟩]⟩
def sp2 : Sp := ⟨[⟨-1, []⟩, ⟨0, [⟨#[120]⟩]⟩], [⟨1, [⟨#[120]⟩], [7], false⟩]⟩

theorem sp0_wf : WF sp0 0 := ⟨⟨by simp [sp0], fun _ => rfl, fun k hk hp => by simp [sp0] at hk; omega, fun k hk => by simp [sp0] at hk; subst hk; simp [sp0]⟩, by simp [sp0], by simp [sp0]⟩
theorem make0 : makeOf sp0 = (sp1, 0, 0) := by kernel_rfl
theorem set1 : setOf sp1 0 ⟨#[120]⟩ 7 = (sp2, 0) := by kernel_rfl
theorem get2 : getOf sp2 0 ⟨#[120]⟩ = (7, 0) := by kernel_rfl

/-- Make keeps the state's laws. -/
theorem makeOf_wf {S : Sp} {N : Nat} (h : WF S N) (hr : 0 < S.shapes.length) : WF (makeOf S).1 N := by
  unfold makeOf
  split
  · exact h
  · split
    · exact h
    · rename_i h1 h2
      refine ⟨h.sh, by simp; omega, fun o ho => ?_⟩
      simp only [List.mem_append, List.mem_singleton] at ho
      rcases ho with ho | rfl
      · exact h.ob o ho
      · exact ⟨rfl, Nat.zero_le _, .inr ⟨0, hr, rfl, by simp only [h.sh.root hr]⟩⟩

theorem setOf_wf {S : Sp} {N : Nat} (h : WF S N) (o : Int) (n : ByteArray) (w : Int) : WF (setOf S o n w).1 (N + 1) := by
  unfold setOf
  split
  · exact h.mono (by omega)
  · rename_i he
    rcases askOf_cases S o n true with h1 | ⟨_, j, rfl, hj⟩
    · exact absurd h1 he
    · have ho := h.ob _ (List.getElem_mem hj)
      rw [obAt_eq hj]
      split
      · refine (setOb_wf h ?_).mono (by omega)
        exact ⟨by simpa using ho.1, ho.2.1, ho.2.2⟩
      · exact addOf_wf h ho n w

theorem shapes_mono_make {S : Sp} (hr : 0 < S.shapes.length) : 0 < (makeOf S).1.shapes.length := by
  unfold makeOf; split
  · exact hr
  · split <;> exact hr

theorem stepSh_pos {l : List Sh} (hr : 0 < l.length) (o : Ob) (n : ByteArray) : 0 < (stepSh l o n).1.length := by
  obtain ⟨h, _⟩ := stepSh_old l o n 0 hr
  exact h

theorem setOf_pos {S : Sp} (hr : 0 < S.shapes.length) (o : Int) (n : ByteArray) (w : Int) : 0 < (setOf S o n w).1.shapes.length := by
  unfold setOf; split
  · exact hr
  · split
    · exact hr
    · exact stepSh_pos hr _ _

theorem setOf_objs (S : Sp) (o : Int) (n : ByteArray) (w : Int) : (setOf S o n w).1.objs.length = S.objs.length := by
  unfold setOf; split
  · rfl
  · split
    · simp [setOb]
    · simp [addOf]

/- cabochon/cabochonlaw20.sane -/
theorem sane_ok : Meets Try.prog 23 [] .nil fun av X κ => av = .val (.bool true) ∧ X = [] ∧ κ = [] := by
  have w1 : WF sp1 0 := by have := makeOf_wf sp0_wf (by simp [sp0]); rwa [make0] at this
  have w2 : WF sp2 1 := by have := setOf_wf w1 0 ⟨#[120]⟩ 7; rwa [set1] at this
  refine Meets.of_vs tabOk Try.func23 (body := ?_) ?_ (by kernel_rfl) Try.ntmps23 (rs := [.tmp 0]) (by kernel_rfl) rfl (by simp [AV.len]) (by simp only [envOf]; exact rfl) ?_
  rotate_left
  · rfl
  intro w0 I0 F0 hF
  repeat first
    | refine VS.seq ?_
    | refine VS.skip ?_
    | refine VS.block ?_
    | refine VS.nil ?_
    | refine blockN_normal ?_
    | refine loopN_normal ?_
    | refine VS.exit ?_
    | refine blockN_hit ?_
    | refine blockN_miss (by decide) ?_
    | refine loopN_exit ?_
    | refine ⟨⟨by omega, by omega⟩, ?_⟩
    | (refine VS.region tabOk (id := 0) [] (by kernel_rfl) ?_; generalize hK : VS _ _ _ = KK; simp [hF]; try subst hK; try (refine VS.keep [] ?_; generalize hK : VS _ _ _ = KK; simp; try subst hK))
    | (refine VS.region tabOk (id := 1) [] (by kernel_rfl) ?_; generalize hK : VS _ _ _ = KK; simp [hF]; try subst hK; try (refine VS.keep [1] ?_; generalize hK : VS _ _ _ = KK; simp; try subst hK))
    | (refine VS.region tabOk (id := 2) [] (by kernel_rfl) ?_; generalize hK : VS _ _ _ = KK; simp [hF]; try subst hK; try (refine VS.keep [1, 2, 3] ?_; generalize hK : VS _ _ _ = KK; simp; try subst hK))
    | (refine VS.region tabOk (id := 3) [] (by kernel_rfl) ?_; generalize hK : VS _ _ _ = KK; simp [hF]; try subst hK; try (refine VS.keep [1, 2, 3, 4] ?_; generalize hK : VS _ _ _ = KK; simp; try subst hK))
    | (refine VS.region tabOk (id := 4) [] (by kernel_rfl) ?_; generalize hK : VS _ _ _ = KK; simp [hF]; try subst hK; try (refine VS.keep [1, 3, 4, 5, 6] ?_; generalize hK : VS _ _ _ = KK; simp; try subst hK))
    | (refine VS.region tabOk (id := 5) [(2, 24), (6, 28), (10, 32), (14, 36)] (by kernel_rfl) ?_; generalize hK : VS _ _ _ = KK; simp [hF]; try subst hK; try (refine VS.keep [0] ?_; generalize hK : VS _ _ _ = KK; simp; try subst hK))
    | (refine VS.cond ?_; generalize hK1 : VS _ _ _ = KK1; generalize hK2 : VS _ _ _ = KK2; simp [hF]; try subst hK1; try subst hK2)
  refine (new_ok).call [] (by simp) (by simp [hF]) (by simp [hF]) (by simp [hF]) ?_
  rintro av X κ ⟨rfl, rfl, rfl⟩
  generalize hK : VS _ _ _ = KK; simp [hF]; try subst hK
  repeat first
    | refine VS.seq ?_
    | refine VS.skip ?_
    | refine VS.block ?_
    | refine VS.nil ?_
    | refine blockN_normal ?_
    | refine loopN_normal ?_
    | refine VS.exit ?_
    | refine blockN_hit ?_
    | refine blockN_miss (by decide) ?_
    | refine loopN_exit ?_
    | refine ⟨⟨by omega, by omega⟩, ?_⟩
    | (refine VS.region tabOk (id := 0) [] (by kernel_rfl) ?_; generalize hK : VS _ _ _ = KK; simp [hF]; try subst hK; try (refine VS.keep [] ?_; generalize hK : VS _ _ _ = KK; simp; try subst hK))
    | (refine VS.region tabOk (id := 1) [] (by kernel_rfl) ?_; generalize hK : VS _ _ _ = KK; simp [hF]; try subst hK; try (refine VS.keep [1] ?_; generalize hK : VS _ _ _ = KK; simp; try subst hK))
    | (refine VS.region tabOk (id := 2) [] (by kernel_rfl) ?_; generalize hK : VS _ _ _ = KK; simp [hF]; try subst hK; try (refine VS.keep [1, 2, 3] ?_; generalize hK : VS _ _ _ = KK; simp; try subst hK))
    | (refine VS.region tabOk (id := 3) [] (by kernel_rfl) ?_; generalize hK : VS _ _ _ = KK; simp [hF]; try subst hK; try (refine VS.keep [1, 2, 3, 4] ?_; generalize hK : VS _ _ _ = KK; simp; try subst hK))
    | (refine VS.region tabOk (id := 4) [] (by kernel_rfl) ?_; generalize hK : VS _ _ _ = KK; simp [hF]; try subst hK; try (refine VS.keep [1, 3, 4, 5, 6] ?_; generalize hK : VS _ _ _ = KK; simp; try subst hK))
    | (refine VS.region tabOk (id := 5) [(2, 24), (6, 28), (10, 32), (14, 36)] (by kernel_rfl) ?_; generalize hK : VS _ _ _ = KK; simp [hF]; try subst hK; try (refine VS.keep [0] ?_; generalize hK : VS _ _ _ = KK; simp; try subst hK))
    | (refine VS.cond ?_; generalize hK1 : VS _ _ _ = KK1; generalize hK2 : VS _ _ _ = KK2; simp [hF]; try subst hK1; try subst hK2)
  refine (make_ok sp0).call [(0, [])] (by simp) (by simp [hF, make0, dSp]) (by simp [hF, make0, dSp]) (by simp [hF, make0, dSp]) ?_
  rintro av X κ ⟨rfl, rfl, rfl⟩
  generalize hK : VS _ _ _ = KK; simp [hF, make0, dSp]; try subst hK
  repeat first
    | refine VS.seq ?_
    | refine VS.skip ?_
    | refine VS.block ?_
    | refine VS.nil ?_
    | refine blockN_normal ?_
    | refine loopN_normal ?_
    | refine VS.exit ?_
    | refine blockN_hit ?_
    | refine blockN_miss (by decide) ?_
    | refine loopN_exit ?_
    | refine ⟨⟨by omega, by omega⟩, ?_⟩
    | (refine VS.region tabOk (id := 0) [] (by kernel_rfl) ?_; generalize hK : VS _ _ _ = KK; simp [hF]; try subst hK; try (refine VS.keep [] ?_; generalize hK : VS _ _ _ = KK; simp; try subst hK))
    | (refine VS.region tabOk (id := 1) [] (by kernel_rfl) ?_; generalize hK : VS _ _ _ = KK; simp [hF]; try subst hK; try (refine VS.keep [1] ?_; generalize hK : VS _ _ _ = KK; simp; try subst hK))
    | (refine VS.region tabOk (id := 2) [] (by kernel_rfl) ?_; generalize hK : VS _ _ _ = KK; simp [hF]; try subst hK; try (refine VS.keep [1, 2, 3] ?_; generalize hK : VS _ _ _ = KK; simp; try subst hK))
    | (refine VS.region tabOk (id := 3) [] (by kernel_rfl) ?_; generalize hK : VS _ _ _ = KK; simp [hF]; try subst hK; try (refine VS.keep [1, 2, 3, 4] ?_; generalize hK : VS _ _ _ = KK; simp; try subst hK))
    | (refine VS.region tabOk (id := 4) [] (by kernel_rfl) ?_; generalize hK : VS _ _ _ = KK; simp [hF]; try subst hK; try (refine VS.keep [1, 3, 4, 5, 6] ?_; generalize hK : VS _ _ _ = KK; simp; try subst hK))
    | (refine VS.region tabOk (id := 5) [(2, 24), (6, 28), (10, 32), (14, 36)] (by kernel_rfl) ?_; generalize hK : VS _ _ _ = KK; simp [hF]; try subst hK; try (refine VS.keep [0] ?_; generalize hK : VS _ _ _ = KK; simp; try subst hK))
    | (refine VS.cond ?_; generalize hK1 : VS _ _ _ = KK1; generalize hK2 : VS _ _ _ = KK2; simp [hF]; try subst hK1; try subst hK2)
  refine (set_ok sp1 w1 (by omega) 0 ⟨#[120]⟩ 7).call [(0, [])] (by simp) (by simp [hF, set1, dSp]) (by simp [hF, set1, dSp]) (by simp [hF, set1, dSp]) ?_
  rintro av X κ ⟨rfl, rfl, rfl⟩
  generalize hK : VS _ _ _ = KK; simp [hF, set1, dSp]; try subst hK
  repeat first
    | refine VS.seq ?_
    | refine VS.skip ?_
    | refine VS.block ?_
    | refine VS.nil ?_
    | refine blockN_normal ?_
    | refine loopN_normal ?_
    | refine VS.exit ?_
    | refine blockN_hit ?_
    | refine blockN_miss (by decide) ?_
    | refine loopN_exit ?_
    | refine ⟨⟨by omega, by omega⟩, ?_⟩
    | (refine VS.region tabOk (id := 0) [] (by kernel_rfl) ?_; generalize hK : VS _ _ _ = KK; simp [hF]; try subst hK; try (refine VS.keep [] ?_; generalize hK : VS _ _ _ = KK; simp; try subst hK))
    | (refine VS.region tabOk (id := 1) [] (by kernel_rfl) ?_; generalize hK : VS _ _ _ = KK; simp [hF]; try subst hK; try (refine VS.keep [1] ?_; generalize hK : VS _ _ _ = KK; simp; try subst hK))
    | (refine VS.region tabOk (id := 2) [] (by kernel_rfl) ?_; generalize hK : VS _ _ _ = KK; simp [hF]; try subst hK; try (refine VS.keep [1, 2, 3] ?_; generalize hK : VS _ _ _ = KK; simp; try subst hK))
    | (refine VS.region tabOk (id := 3) [] (by kernel_rfl) ?_; generalize hK : VS _ _ _ = KK; simp [hF]; try subst hK; try (refine VS.keep [1, 2, 3, 4] ?_; generalize hK : VS _ _ _ = KK; simp; try subst hK))
    | (refine VS.region tabOk (id := 4) [] (by kernel_rfl) ?_; generalize hK : VS _ _ _ = KK; simp [hF]; try subst hK; try (refine VS.keep [1, 3, 4, 5, 6] ?_; generalize hK : VS _ _ _ = KK; simp; try subst hK))
    | (refine VS.region tabOk (id := 5) [(2, 24), (6, 28), (10, 32), (14, 36)] (by kernel_rfl) ?_; generalize hK : VS _ _ _ = KK; simp [hF]; try subst hK; try (refine VS.keep [0] ?_; generalize hK : VS _ _ _ = KK; simp; try subst hK))
    | (refine VS.cond ?_; generalize hK1 : VS _ _ _ = KK1; generalize hK2 : VS _ _ _ = KK2; simp [hF]; try subst hK1; try subst hK2)
  refine (get_ok sp2 w2 (by omega) 0 ⟨#[120]⟩).call [(0, [])] (by simp) (by simp [hF, get2, dSp]) (by simp [hF, get2, dSp]) (by simp [hF, get2, dSp]) ?_
  rintro av X κ ⟨rfl, rfl, rfl⟩
  generalize hK : VS _ _ _ = KK; simp [hF, get2, dSp]; try subst hK
  repeat first
    | refine VS.seq ?_
    | refine VS.skip ?_
    | refine VS.block ?_
    | refine VS.nil ?_
    | refine blockN_normal ?_
    | refine loopN_normal ?_
    | refine VS.exit ?_
    | refine blockN_hit ?_
    | refine blockN_miss (by decide) ?_
    | refine loopN_exit ?_
    | refine ⟨⟨by omega, by omega⟩, ?_⟩
    | (refine VS.region tabOk (id := 0) [] (by kernel_rfl) ?_; generalize hK : VS _ _ _ = KK; simp [hF]; try subst hK; try (refine VS.keep [] ?_; generalize hK : VS _ _ _ = KK; simp; try subst hK))
    | (refine VS.region tabOk (id := 1) [] (by kernel_rfl) ?_; generalize hK : VS _ _ _ = KK; simp [hF]; try subst hK; try (refine VS.keep [1] ?_; generalize hK : VS _ _ _ = KK; simp; try subst hK))
    | (refine VS.region tabOk (id := 2) [] (by kernel_rfl) ?_; generalize hK : VS _ _ _ = KK; simp [hF]; try subst hK; try (refine VS.keep [1, 2, 3] ?_; generalize hK : VS _ _ _ = KK; simp; try subst hK))
    | (refine VS.region tabOk (id := 3) [] (by kernel_rfl) ?_; generalize hK : VS _ _ _ = KK; simp [hF]; try subst hK; try (refine VS.keep [1, 2, 3, 4] ?_; generalize hK : VS _ _ _ = KK; simp; try subst hK))
    | (refine VS.region tabOk (id := 4) [] (by kernel_rfl) ?_; generalize hK : VS _ _ _ = KK; simp [hF]; try subst hK; try (refine VS.keep [1, 3, 4, 5, 6] ?_; generalize hK : VS _ _ _ = KK; simp; try subst hK))
    | (refine VS.region tabOk (id := 5) [(2, 24), (6, 28), (10, 32), (14, 36)] (by kernel_rfl) ?_; generalize hK : VS _ _ _ = KK; simp [hF]; try subst hK; try (refine VS.keep [0] ?_; generalize hK : VS _ _ _ = KK; simp; try subst hK))
    | (refine VS.cond ?_; generalize hK1 : VS _ _ _ = KK1; generalize hK2 : VS _ _ _ = KK2; simp [hF]; try subst hK1; try subst hK2)
  refine (shapes_ok sp2).call [(0, [])] (by simp) (by simp [hF, shapesOf, dSp]) (by simp [hF, shapesOf, dSp]) (by simp [hF, shapesOf, dSp]) ?_
  rintro av X κ ⟨rfl, rfl, rfl⟩
  generalize hK : VS _ _ _ = KK; simp [hF, shapesOf, dSp]; try subst hK
  repeat first
    | refine VS.seq ?_
    | refine VS.skip ?_
    | refine VS.block ?_
    | refine VS.nil ?_
    | refine blockN_normal ?_
    | refine loopN_normal ?_
    | refine VS.exit ?_
    | refine blockN_hit ?_
    | refine blockN_miss (by decide) ?_
    | refine loopN_exit ?_
    | refine ⟨⟨by omega, by omega⟩, ?_⟩
    | (refine VS.region tabOk (id := 0) [] (by kernel_rfl) ?_; generalize hK : VS _ _ _ = KK; simp [hF, shapesOf]; try subst hK; try (refine VS.keep [] ?_; generalize hK : VS _ _ _ = KK; simp; try subst hK))
    | (refine VS.region tabOk (id := 1) [] (by kernel_rfl) ?_; generalize hK : VS _ _ _ = KK; simp [hF, shapesOf]; try subst hK; try (refine VS.keep [1] ?_; generalize hK : VS _ _ _ = KK; simp; try subst hK))
    | (refine VS.region tabOk (id := 2) [] (by kernel_rfl) ?_; generalize hK : VS _ _ _ = KK; simp [hF, shapesOf]; try subst hK; try (refine VS.keep [1, 2, 3] ?_; generalize hK : VS _ _ _ = KK; simp; try subst hK))
    | (refine VS.region tabOk (id := 3) [] (by kernel_rfl) ?_; generalize hK : VS _ _ _ = KK; simp [hF, shapesOf]; try subst hK; try (refine VS.keep [1, 2, 3, 4] ?_; generalize hK : VS _ _ _ = KK; simp; try subst hK))
    | (refine VS.region tabOk (id := 4) [] (by kernel_rfl) ?_; generalize hK : VS _ _ _ = KK; simp [hF, shapesOf]; try subst hK; try (refine VS.keep [1, 3, 4, 5, 6] ?_; generalize hK : VS _ _ _ = KK; simp; try subst hK))
    | (refine VS.region tabOk (id := 5) [(2, 24), (6, 28), (10, 32), (14, 36)] (by kernel_rfl) ?_; generalize hK : VS _ _ _ = KK; simp [hF, shapesOf]; try subst hK; try (refine VS.keep [0] ?_; generalize hK : VS _ _ _ = KK; simp; try subst hK))
    | (refine VS.cond ?_; generalize hK1 : VS _ _ _ = KK1; generalize hK2 : VS _ _ _ = KK2; simp [hF, shapesOf]; try subst hK1; try subst hK2)
  try refine VS.ret ?_
  repeat first | refine blockN_ret ?_ | refine loopN_ret ?_
  refine endK.of [0] [] [] (by simp [hF]) (by simp [covers, mpre]) ?_
  simp [hF, retK, sp2]
end Go.Proofs.Ythcndkpkkaphoaa
