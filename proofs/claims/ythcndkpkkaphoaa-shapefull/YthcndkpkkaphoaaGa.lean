/- The data: an abstract space (shapes with all their names, objects with names and words), and how both packages lay it. -/
import Derived.Test.YthcndkpkkaphoaaT
namespace Go.Proofs.Ythcndkpkkaphoaa
set_option linter.all false
open Go.Vc Go.Proofs

structure Sh where
  parent : Int
  names : List ByteArray

structure Ob where
  shape : Int
  names : List ByteArray
  words : List Int
  frozen : Bool

structure Sp where
  shapes : List Sh
  objs : List Ob

abbrev noName : ByteArray := ⟨#[]⟩

def lastName (l : List ByteArray) : ByteArray := l.getLastD noName

def realB (S : Sp) : Bool := decide (0 < S.shapes.length)
def hasB (S : Sp) (o : Int) : Bool := decide (0 < S.shapes.length ∧ 0 ≤ o ∧ o < S.objs.length)
def shapedB (S : Sp) (o : Int) : Bool := decide (0 < S.shapes.length ∧ 0 ≤ o ∧ o < S.shapes.length)
theorem hasB_true {S : Sp} {o : Int} (h : hasB S o = true) : ∃ j : Nat, o = j ∧ j < S.objs.length ∧ 0 < S.shapes.length := by
  simp only [hasB, decide_eq_true_eq] at h
  exact ⟨o.toNat, by omega, by omega, h.1⟩
theorem shapedB_true {S : Sp} {o : Int} (h : shapedB S o = true) : ∃ j : Nat, o = j ∧ j < S.shapes.length := by
  simp only [shapedB, decide_eq_true_eq] at h
  exact ⟨o.toNat, by omega, by omega⟩

/- The program's own. -/
def dSh (s : Sh) : D := .agg (.cons (dInt s.parent) (.cons (dStr (lastName s.names)) .nil))
def ownOf (o : Ob) : List ByteArray := if o.shape = -1 then o.names else []
def dOb (o : Ob) : D := .agg (.cons (dInt o.shape) (.cons (.sl true () 1 (dStrs (ownOf o))) (.cons (.sl true () 1 (dInts o.words)) (.cons (dBool o.frozen) .nil))))
def dShs (l : List Sh) : D := sq (l.map dSh)
def dObs (l : List Ob) : D := sq (l.map dOb)
def dSp (s : Sp) : D := .box true () (.agg (.cons (.sl true () 2 (dShs s.shapes)) (.cons (.sl true () 4 (dObs s.objs)) .nil)))

/- The reference's. -/
def dRSh (s : Sh) : D := .agg (.cons (dInt s.parent) (.cons (.sl true () 1 (dStrs s.names)) .nil))
def dROb (o : Ob) : D := .agg (.cons (dInt o.shape) (.cons (.sl true () 1 (dStrs o.names)) (.cons (.sl true () 1 (dInts o.words)) (.cons (dBool o.frozen) .nil))))
def dRShs (l : List Sh) : D := sq (l.map dRSh)
def dRObs (l : List Ob) : D := sq (l.map dROb)
def dRSp (s : Sp) : D := .box true () (.agg (.cons (dBool true) (.cons (.sl true () 2 (dRShs s.shapes)) (.cons (.sl true () 4 (dRObs s.objs)) .nil))))

def sp0 : Sp := ⟨[⟨-1, []⟩], []⟩
@[simp high] theorem head_dSp (S : Sp) : isHead (dSp S) = true := by rw [dSp, isHead]
@[simp high] theorem head_dRSp (S : Sp) : isHead (dRSp S) = true := by rw [dRSp, isHead]
@[simp] theorem dShs_len (l : List Sh) : (dShs l).len = l.length := by simp [dShs]
@[simp] theorem dObs_len (l : List Ob) : (dObs l).len = l.length := by simp [dObs]
@[simp] theorem dRShs_len (l : List Sh) : (dRShs l).len = l.length := by simp [dRShs]
@[simp] theorem dRObs_len (l : List Ob) : (dRObs l).len = l.length := by simp [dRObs]
theorem dShs_nth {l : List Sh} {i : Nat} (h : i < l.length) : (dShs l).nth i = dSh l[i] := by rw [dShs, sq_nth_lt (by simpa using h)]; simp
theorem dObs_nth {l : List Ob} {i : Nat} (h : i < l.length) : (dObs l).nth i = dOb l[i] := by rw [dObs, sq_nth_lt (by simpa using h)]; simp
theorem dRShs_nth {l : List Sh} {i : Nat} (h : i < l.length) : (dRShs l).nth i = dRSh l[i] := by rw [dRShs, sq_nth_lt (by simpa using h)]; simp
theorem dRObs_nth {l : List Ob} {i : Nat} (h : i < l.length) : (dRObs l).nth i = dROb l[i] := by rw [dRObs, sq_nth_lt (by simpa using h)]; simp
/- Elements as they are read, and as they are laid back. -/
theorem dShs_at {l : List Sh} {i : Nat} (h : i < l.length) : (dShs l).nth i = .agg (.cons (.val (.int .i64 l[i].parent)) (.cons (.val (.string (lastName l[i].names))) .nil)) := dShs_nth h
theorem dObs_at {l : List Ob} {i : Nat} (h : i < l.length) : (dObs l).nth i = .agg (.cons (.val (.int .i64 l[i].shape)) (.cons (.sl true () 1 (dStrs (ownOf l[i]))) (.cons (.sl true () 1 (dInts l[i].words)) (.cons (.val (.bool l[i].frozen)) .nil)))) := dObs_nth h
theorem dRShs_at {l : List Sh} {i : Nat} (h : i < l.length) : (dRShs l).nth i = .agg (.cons (.val (.int .i64 l[i].parent)) (.cons (.sl true () 1 (dStrs l[i].names)) .nil)) := dRShs_nth h
theorem dRObs_at {l : List Ob} {i : Nat} (h : i < l.length) : (dRObs l).nth i = .agg (.cons (.val (.int .i64 l[i].shape)) (.cons (.sl true () 1 (dStrs l[i].names)) (.cons (.sl true () 1 (dInts l[i].words)) (.cons (.val (.bool l[i].frozen)) .nil)))) := dRObs_nth h
theorem dObs_set (l : List Ob) (i : Nat) (o : Ob) : (dObs l).setN i (.agg (.cons (.val (.int .i64 o.shape)) (.cons (.sl true () 1 (dStrs (ownOf o))) (.cons (.sl true () 1 (dInts o.words)) (.cons (.val (.bool o.frozen)) .nil))))) = dObs (l.set i o) := by
  simp only [dObs, sq_setN, List.map_set]; rfl
theorem dRObs_set (l : List Ob) (i : Nat) (o : Ob) : (dRObs l).setN i (.agg (.cons (.val (.int .i64 o.shape)) (.cons (.sl true () 1 (dStrs o.names)) (.cons (.sl true () 1 (dInts o.words)) (.cons (.val (.bool o.frozen)) .nil))))) = dRObs (l.set i o) := by
  simp only [dRObs, sq_setN, List.map_set]; rfl
theorem dObs_push (l : List Ob) (o : Ob) : (dObs l).app (.cons (.agg (.cons (.val (.int .i64 o.shape)) (.cons (.sl true () 1 (dStrs (ownOf o))) (.cons (.sl true () 1 (dInts o.words)) (.cons (.val (.bool o.frozen)) .nil))))) .nil) = dObs (l ++ [o]) := by
  simp only [dObs, List.map_append, ← sq_app]; rfl
theorem dRObs_push (l : List Ob) (o : Ob) : (dRObs l).app (.cons (.agg (.cons (.val (.int .i64 o.shape)) (.cons (.sl true () 1 (dStrs o.names)) (.cons (.sl true () 1 (dInts o.words)) (.cons (.val (.bool o.frozen)) .nil))))) .nil) = dRObs (l ++ [o]) := by
  simp only [dRObs, List.map_append, ← sq_app]; rfl
theorem dShs_push (l : List Sh) (s : Sh) : (dShs l).app (.cons (.agg (.cons (.val (.int .i64 s.parent)) (.cons (.val (.string (lastName s.names))) .nil))) .nil) = dShs (l ++ [s]) := by
  simp only [dShs, List.map_append, ← sq_app]; rfl
theorem dRShs_push (l : List Sh) (s : Sh) : (dRShs l).app (.cons (.agg (.cons (.val (.int .i64 s.parent)) (.cons (.sl true () 1 (dStrs s.names)) .nil))) .nil) = dRShs (l ++ [s]) := by
  simp only [dRShs, List.map_append, ← sq_app]; rfl
@[simp] theorem dShs_mid (l : List Sh) : (dShs l).mid 0 l.length = dShs l := sq_mid_all _ _ (by simp)
@[simp] theorem dObs_mid (l : List Ob) : (dObs l).mid 0 l.length = dObs l := sq_mid_all _ _ (by simp)
@[simp] theorem dRShs_mid (l : List Sh) : (dRShs l).mid 0 l.length = dRShs l := sq_mid_all _ _ (by simp)
@[simp] theorem dRObs_mid (l : List Ob) : (dRObs l).mid 0 l.length = dRObs l := sq_mid_all _ _ (by simp)
@[simp] theorem dShs_mid1 (l : List Sh) (s : Sh) : (dShs (l ++ [s])).mid 0 (l.length + 1) = dShs (l ++ [s]) := sq_mid_all _ _ (by simp)
@[simp] theorem dObs_mid1 (l : List Ob) (s : Ob) : (dObs (l ++ [s])).mid 0 (l.length + 1) = dObs (l ++ [s]) := sq_mid_all _ _ (by simp)
@[simp] theorem dRShs_mid1 (l : List Sh) (s : Sh) : (dRShs (l ++ [s])).mid 0 (l.length + 1) = dRShs (l ++ [s]) := sq_mid_all _ _ (by simp)
@[simp] theorem dRObs_mid1 (l : List Ob) (s : Ob) : (dRObs (l ++ [s])).mid 0 (l.length + 1) = dRObs (l ++ [s]) := sq_mid_all _ _ (by simp)
@[simp] theorem dShs_free (l : List Sh) : (dShs l).free = true := sq_free fun x hx => by obtain ⟨n, _, rfl⟩ := List.mem_map.1 hx; rfl
end Go.Proofs.Ythcndkpkkaphoaa

/- Leaves: what is real; New. -/
namespace Go.Proofs.Ythcndkpkkaphoaa
set_option linter.all false
open Go.Vc Go.Proofs
set_option linter.unusedSimpArgs false
set_option maxRecDepth 100000

/- (*cabochon/shape.Space).real -/
theorem real_ok (S : Sp) : Meets Try.prog 38 [dSp S] (.cons (.ptr 0 [.d]) .nil) fun av X κ => av = .val (.bool (realB S)) ∧ X = [dSp S] ∧ κ = [] := by
  refine Meets.of_vs tabOk Try.func38 (body := ?_) ?_ (by kernel_rfl) Try.ntmps38 (rs := [.tmp 2]) (by kernel_rfl) rfl (by simp [AV.len]) (by simp only [envOf]; exact rfl) ?_
  rotate_left
  · rfl
  intro w0 I0 F0 hF
  repeat first
    | refine VS.seq ?_
    | refine VS.skip ?_
    | refine VS.block ?_
    | refine VS.nil ?_
    | refine blockN_normal ?_
    | refine loopN_normal ?_
    | refine VS.exit ?_
    | refine blockN_hit ?_
    | refine blockN_miss (by decide) ?_
    | refine loopN_exit ?_
    | refine ⟨⟨by omega, by omega⟩, ?_⟩
    | (refine VS.region tabOk (id := 0) [] (by kernel_rfl) ?_; generalize hK : VS _ _ _ = KK; simp [hF, dSp]; try subst hK; try (refine VS.keep [0] ?_; generalize hK : VS _ _ _ = KK; simp; try subst hK))
    | (refine VS.region tabOk (id := 1) [(2, 5)] (by kernel_rfl) ?_; generalize hK : VS _ _ _ = KK; simp [hF, dSp]; try subst hK; try (refine VS.keep [2] ?_; generalize hK : VS _ _ _ = KK; simp; try subst hK))
    | (refine VS.cond ?_; generalize hK1 : VS _ _ _ = KK1; generalize hK2 : VS _ _ _ = KK2; simp [hF, dSp]; try subst hK1; try subst hK2)
  try refine VS.ret ?_
  repeat first | refine blockN_ret ?_ | refine loopN_ret ?_
  refine endK.of [2] [0] [] (by simp [hF]) (by simp [covers, mpre]) ?_
  simp [hF, retK, dSp, realB]

/- (*cabochon/shape.Space).has -/
theorem has_ok (S : Sp) (o : Int) : Meets Try.prog 48 [dSp S] (.cons (.ptr 0 [.d]) (.cons (.val (.int .i64 o)) .nil)) fun av X κ => av = .val (.bool (hasB S o)) ∧ X = [dSp S] ∧ κ = [] := by
  refine Meets.of_vs tabOk Try.func48 (body := ?_) ?_ (by kernel_rfl) Try.ntmps48 (rs := [.tmp 4]) (by kernel_rfl) rfl (by simp [AV.len]) (by simp only [envOf]; exact rfl) ?_
  rotate_left
  · rfl
  intro w0 I0 F0 hF
  repeat first
    | refine VS.seq ?_
    | refine VS.skip ?_
    | refine VS.block ?_
    | refine VS.nil ?_
    | refine blockN_normal ?_
    | refine loopN_normal ?_
    | refine VS.exit ?_
    | refine blockN_hit ?_
    | refine blockN_miss (by decide) ?_
    | refine loopN_exit ?_
    | refine ⟨⟨by omega, by omega⟩, ?_⟩
    | (refine VS.region tabOk (id := 0) [] (by kernel_rfl) ?_; generalize hK : VS _ _ _ = KK; simp [hF]; try subst hK; try (refine VS.keep [0, 1] ?_; generalize hK : VS _ _ _ = KK; simp; try subst hK))
    | (refine VS.region tabOk (id := 1) [(2, 7), (6, 11)] (by kernel_rfl) ?_; generalize hK : VS _ _ _ = KK; simp [hF]; try subst hK; try (refine VS.keep [4] ?_; generalize hK : VS _ _ _ = KK; simp; try subst hK))
    | (refine VS.cond ?_; generalize hK1 : VS _ _ _ = KK1; generalize hK2 : VS _ _ _ = KK2; simp [hF]; try subst hK1; try subst hK2)
  refine (real_ok S).call [(0, [])] (by simp) (by simp [hF, dSp, realB]) (by simp [hF, dSp, realB]) (by simp [hF, dSp, realB]) ?_
  rintro av X κ ⟨rfl, rfl, rfl⟩
  generalize hK : VS _ _ _ = KK; simp [hF, dSp, realB]; try subst hK
  refine ⟨fun h1 => ⟨fun h2 => ?_, fun h2 => ?_⟩, fun h1 => ?_⟩
  all_goals try refine VS.ret ?_
  all_goals repeat first | refine blockN_ret ?_ | refine loopN_ret ?_
  all_goals refine endK.of [4] [0] [] (by simp [hF]) (by simp [covers, mpre]) ?_
  all_goals simp [hF, retK, h1, dSp, hasB, shapedB]
  all_goals omega

/- (*cabochon/shape.Space).shaped -/
theorem shaped_ok (S : Sp) (o : Int) : Meets Try.prog 55 [dSp S] (.cons (.ptr 0 [.d]) (.cons (.val (.int .i64 o)) .nil)) fun av X κ => av = .val (.bool (shapedB S o)) ∧ X = [dSp S] ∧ κ = [] := by
  refine Meets.of_vs tabOk Try.func55 (body := ?_) ?_ (by kernel_rfl) Try.ntmps55 (rs := [.tmp 4]) (by kernel_rfl) rfl (by simp [AV.len]) (by simp only [envOf]; exact rfl) ?_
  rotate_left
  · rfl
  intro w0 I0 F0 hF
  repeat first
    | refine VS.seq ?_
    | refine VS.skip ?_
    | refine VS.block ?_
    | refine VS.nil ?_
    | refine blockN_normal ?_
    | refine loopN_normal ?_
    | refine VS.exit ?_
    | refine blockN_hit ?_
    | refine blockN_miss (by decide) ?_
    | refine loopN_exit ?_
    | refine ⟨⟨by omega, by omega⟩, ?_⟩
    | (refine VS.region tabOk (id := 0) [] (by kernel_rfl) ?_; generalize hK : VS _ _ _ = KK; simp [hF]; try subst hK; try (refine VS.keep [0, 1] ?_; generalize hK : VS _ _ _ = KK; simp; try subst hK))
    | (refine VS.region tabOk (id := 1) [(2, 7), (6, 11)] (by kernel_rfl) ?_; generalize hK : VS _ _ _ = KK; simp [hF]; try subst hK; try (refine VS.keep [4] ?_; generalize hK : VS _ _ _ = KK; simp; try subst hK))
    | (refine VS.cond ?_; generalize hK1 : VS _ _ _ = KK1; generalize hK2 : VS _ _ _ = KK2; simp [hF]; try subst hK1; try subst hK2)
  refine (real_ok S).call [(0, [])] (by simp) (by simp [hF, dSp, realB]) (by simp [hF, dSp, realB]) (by simp [hF, dSp, realB]) ?_
  rintro av X κ ⟨rfl, rfl, rfl⟩
  generalize hK : VS _ _ _ = KK; simp [hF, dSp, realB]; try subst hK
  refine ⟨fun h1 => ⟨fun h2 => ?_, fun h2 => ?_⟩, fun h1 => ?_⟩
  all_goals try refine VS.ret ?_
  all_goals repeat first | refine blockN_ret ?_ | refine loopN_ret ?_
  all_goals refine endK.of [4] [0] [] (by simp [hF]) (by simp [covers, mpre]) ?_
  all_goals simp [hF, retK, h1, dSp, hasB, shapedB]
  all_goals omega

/- cabochon/shape.New -/
theorem new_ok : Meets Try.prog 12 [] .nil fun av X κ => av = .ptr 0 [.d] ∧ X = [dSp sp0] ∧ κ = [] := by
  refine Meets.of_vs tabOk Try.func12 (body := ?_) ?_ (by kernel_rfl) Try.ntmps12 (rs := [.tmp 0]) (by kernel_rfl) rfl (by simp [AV.len]) (by simp only [envOf]; exact rfl) ?_
  rotate_left
  · rfl
  intro w0 I0 F0 hF
  repeat first
    | refine VS.seq ?_
    | refine VS.skip ?_
    | refine VS.block ?_
    | refine VS.nil ?_
    | refine blockN_normal ?_
    | refine loopN_normal ?_
    | refine VS.exit ?_
    | refine blockN_hit ?_
    | refine blockN_miss (by decide) ?_
    | refine loopN_exit ?_
    | refine ⟨⟨by omega, by omega⟩, ?_⟩
    | (refine VS.region tabOk (id := 0) [] (by kernel_rfl) ?_; generalize hK : VS _ _ _ = KK; simp [hF]; try subst hK; try (refine VS.keep [] ?_; generalize hK : VS _ _ _ = KK; simp; try subst hK))
    | (refine VS.region tabOk (id := 1) [] (by kernel_rfl) ?_; generalize hK : VS _ _ _ = KK; simp [hF]; try subst hK; try (refine VS.keep [0] ?_; generalize hK : VS _ _ _ = KK; simp; try subst hK))
    | (refine VS.cond ?_; generalize hK1 : VS _ _ _ = KK1; generalize hK2 : VS _ _ _ = KK2; simp [hF]; try subst hK1; try subst hK2)
  try refine VS.ret ?_
  repeat first | refine blockN_ret ?_ | refine loopN_ret ?_
  refine endK.of [0] [1] [] (by simp [hF]) (by simp [covers, mpre]) ?_
  simp [hF, retK]
  rfl
end Go.Proofs.Ythcndkpkkaphoaa

/- Leaves: the functions of the package slices. -/
namespace Go.Proofs.Ythcndkpkkaphoaa
set_option linter.all false
open Go.Vc Go.Proofs
set_option linter.unusedSimpArgs false
set_option maxRecDepth 100000

/- slices.Clone[[]string,string] -/
theorem cloneStr_ok (own ex : Bool) (l : List ByteArray) (hl : l.length ≤ 1000000) : Meets Try.prog 51 [.sl own () 1 (dStrs l)] (.cons (.sub 0 [] 0 l.length ex) .nil)
    fun av X κ => av = .sub 1 [] 0 l.length false ∧ X = [.sl own () 1 (dStrs l), .sl true () 1 (dStrs l)] ∧ κ = [] := by
  refine Meets.of_vs tabOk Try.func51 (body := ?_) ?_ (by kernel_rfl) Try.ntmps51 (rs := [.tmp 2]) (by kernel_rfl) rfl (by simp [AV.len]) (by simp only [envOf]; exact rfl) ?_
  rotate_left
  · rfl
  intro w0 I0 F0 hF
  repeat first
    | refine VS.seq ?_
    | refine VS.skip ?_
    | refine VS.block ?_
    | refine VS.nil ?_
    | refine blockN_normal ?_
    | refine loopN_normal ?_
    | refine VS.exit ?_
    | refine blockN_hit ?_
    | refine blockN_miss (by decide) ?_
    | refine loopN_exit ?_
    | refine ⟨⟨by omega, by omega⟩, ?_⟩
    | (refine VS.region tabOk (id := 0) [] (by kernel_rfl) ?_; generalize hK : VS _ _ _ = KK; simp [hF]; try subst hK; try (refine VS.keep [0] ?_; generalize hK : VS _ _ _ = KK; simp; try subst hK))
    | (refine VS.region tabOk (id := 1) [] (by kernel_rfl) ?_; generalize hK : VS _ _ _ = KK; simp [hF]; try subst hK; try (refine VS.keep [0, 4] ?_; generalize hK : VS _ _ _ = KK; simp; try subst hK))
    | (refine VS.region tabOk (id := 2) [] (by kernel_rfl) ?_; generalize hK : VS _ _ _ = KK; simp [hF]; try subst hK; try (refine VS.keep [2] ?_; generalize hK : VS _ _ _ = KK; simp; try subst hK))
    | (refine VS.region tabOk (id := 3) [] (by kernel_rfl) ?_; generalize hK : VS _ _ _ = KK; simp [hF]; try subst hK; try (refine VS.keep [2] ?_; generalize hK : VS _ _ _ = KK; simp; try subst hK))
    | (refine VS.cond ?_; generalize hK1 : VS _ _ _ = KK1; generalize hK2 : VS _ _ _ = KK2; simp [hF]; try subst hK1; try subst hK2)
  refine ⟨?_, fun h0 => ?_⟩
  · repeat first
      | refine VS.seq ?_
      | refine VS.skip ?_
      | refine VS.block ?_
      | refine VS.nil ?_
      | refine blockN_normal ?_
      | refine loopN_normal ?_
      | refine VS.exit ?_
      | refine blockN_hit ?_
      | refine blockN_miss (by decide) ?_
      | refine loopN_exit ?_
      | refine ⟨⟨by omega, by omega⟩, ?_⟩
      | (refine VS.region tabOk (id := 0) [] (by kernel_rfl) ?_; generalize hK : VS _ _ _ = KK; simp [hF]; try subst hK; try (refine VS.keep [0] ?_; generalize hK : VS _ _ _ = KK; simp; try subst hK))
      | (refine VS.region tabOk (id := 1) [] (by kernel_rfl) ?_; generalize hK : VS _ _ _ = KK; simp [hF]; try subst hK; try (refine VS.keep [0, 4] ?_; generalize hK : VS _ _ _ = KK; simp; try subst hK))
      | (refine VS.region tabOk (id := 2) [] (by kernel_rfl) ?_; generalize hK : VS _ _ _ = KK; simp [hF]; try subst hK; try (refine VS.keep [2] ?_; generalize hK : VS _ _ _ = KK; simp; try subst hK))
      | (refine VS.region tabOk (id := 3) [] (by kernel_rfl) ?_; generalize hK : VS _ _ _ = KK; simp [hF]; try subst hK; try (refine VS.keep [2] ?_; generalize hK : VS _ _ _ = KK; simp; try subst hK))
      | (refine VS.cond ?_; generalize hK1 : VS _ _ _ = KK1; generalize hK2 : VS _ _ _ = KK2; simp [hF]; try subst hK1; try subst hK2)
    try refine VS.ret ?_
    repeat first | refine blockN_ret ?_ | refine loopN_ret ?_
    refine endK.of [2] [0, 1] [] (by simp [hF]) (by simp [covers, mpre]) ?_
    simp [hF, retK]
  · repeat first
      | refine VS.seq ?_
      | refine VS.skip ?_
      | refine VS.block ?_
      | refine VS.nil ?_
      | refine blockN_normal ?_
      | refine loopN_normal ?_
      | refine VS.exit ?_
      | refine blockN_hit ?_
      | refine blockN_miss (by decide) ?_
      | refine loopN_exit ?_
      | refine ⟨⟨by omega, by omega⟩, ?_⟩
      | (refine VS.region tabOk (id := 0) [] (by kernel_rfl) ?_; generalize hK : VS _ _ _ = KK; simp [hF]; try subst hK; try (refine VS.keep [0] ?_; generalize hK : VS _ _ _ = KK; simp; try subst hK))
      | (refine VS.region tabOk (id := 1) [] (by kernel_rfl) ?_; generalize hK : VS _ _ _ = KK; simp [hF]; try subst hK; try (refine VS.keep [0, 4] ?_; generalize hK : VS _ _ _ = KK; simp; try subst hK))
      | (refine VS.region tabOk (id := 2) [] (by kernel_rfl) ?_; generalize hK : VS _ _ _ = KK; simp [hF]; try subst hK; try (refine VS.keep [2] ?_; generalize hK : VS _ _ _ = KK; simp; try subst hK))
      | (refine VS.region tabOk (id := 3) [] (by kernel_rfl) ?_; generalize hK : VS _ _ _ = KK; simp [hF]; try subst hK; try (refine VS.keep [2] ?_; generalize hK : VS _ _ _ = KK; simp; try subst hK))
      | (refine VS.cond ?_; generalize hK1 : VS _ _ _ = KK1; generalize hK2 : VS _ _ _ = KK2; simp [hF]; try subst hK1; try subst hK2)
    refine VS.hold0 2 1 (by simp) ?_
    subst h0
    try refine VS.ret ?_
    repeat first | refine blockN_ret ?_ | refine loopN_ret ?_
    refine endK.of [2] [0, 1] [] (by simp [hF]) (by simp [covers, mpre]) ?_
    simp [hF, retK, dStrs]

/- slices.Clone[[]int,int] -/
theorem cloneInt_ok (own ex : Bool) (l : List Int) (hl : l.length ≤ 1000000) : Meets Try.prog 52 [.sl own () 1 (dInts l)] (.cons (.sub 0 [] 0 l.length ex) .nil)
    fun av X κ => av = .sub 1 [] 0 l.length false ∧ X = [.sl own () 1 (dInts l), .sl true () 1 (dInts l)] ∧ κ = [] := by
  refine Meets.of_vs tabOk Try.func52 (body := ?_) ?_ (by kernel_rfl) Try.ntmps52 (rs := [.tmp 2]) (by kernel_rfl) rfl (by simp [AV.len]) (by simp only [envOf]; exact rfl) ?_
  rotate_left
  · rfl
  intro w0 I0 F0 hF
  repeat first
    | refine VS.seq ?_
    | refine VS.skip ?_
    | refine VS.block ?_
    | refine VS.nil ?_
    | refine blockN_normal ?_
    | refine loopN_normal ?_
    | refine VS.exit ?_
    | refine blockN_hit ?_
    | refine blockN_miss (by decide) ?_
    | refine loopN_exit ?_
    | refine ⟨⟨by omega, by omega⟩, ?_⟩
    | (refine VS.region tabOk (id := 0) [] (by kernel_rfl) ?_; generalize hK : VS _ _ _ = KK; simp [hF]; try subst hK; try (refine VS.keep [0] ?_; generalize hK : VS _ _ _ = KK; simp; try subst hK))
    | (refine VS.region tabOk (id := 1) [] (by kernel_rfl) ?_; generalize hK : VS _ _ _ = KK; simp [hF]; try subst hK; try (refine VS.keep [0, 4] ?_; generalize hK : VS _ _ _ = KK; simp; try subst hK))
    | (refine VS.region tabOk (id := 2) [] (by kernel_rfl) ?_; generalize hK : VS _ _ _ = KK; simp [hF]; try subst hK; try (refine VS.keep [2] ?_; generalize hK : VS _ _ _ = KK; simp; try subst hK))
    | (refine VS.region tabOk (id := 3) [] (by kernel_rfl) ?_; generalize hK : VS _ _ _ = KK; simp [hF]; try subst hK; try (refine VS.keep [2] ?_; generalize hK : VS _ _ _ = KK; simp; try subst hK))
    | (refine VS.cond ?_; generalize hK1 : VS _ _ _ = KK1; generalize hK2 : VS _ _ _ = KK2; simp [hF]; try subst hK1; try subst hK2)
  refine ⟨?_, fun h0 => ?_⟩
  · repeat first
      | refine VS.seq ?_
      | refine VS.skip ?_
      | refine VS.block ?_
      | refine VS.nil ?_
      | refine blockN_normal ?_
      | refine loopN_normal ?_
      | refine VS.exit ?_
      | refine blockN_hit ?_
      | refine blockN_miss (by decide) ?_
      | refine loopN_exit ?_
      | refine ⟨⟨by omega, by omega⟩, ?_⟩
      | (refine VS.region tabOk (id := 0) [] (by kernel_rfl) ?_; generalize hK : VS _ _ _ = KK; simp [hF]; try subst hK; try (refine VS.keep [0] ?_; generalize hK : VS _ _ _ = KK; simp; try subst hK))
      | (refine VS.region tabOk (id := 1) [] (by kernel_rfl) ?_; generalize hK : VS _ _ _ = KK; simp [hF]; try subst hK; try (refine VS.keep [0, 4] ?_; generalize hK : VS _ _ _ = KK; simp; try subst hK))
      | (refine VS.region tabOk (id := 2) [] (by kernel_rfl) ?_; generalize hK : VS _ _ _ = KK; simp [hF]; try subst hK; try (refine VS.keep [2] ?_; generalize hK : VS _ _ _ = KK; simp; try subst hK))
      | (refine VS.region tabOk (id := 3) [] (by kernel_rfl) ?_; generalize hK : VS _ _ _ = KK; simp [hF]; try subst hK; try (refine VS.keep [2] ?_; generalize hK : VS _ _ _ = KK; simp; try subst hK))
      | (refine VS.cond ?_; generalize hK1 : VS _ _ _ = KK1; generalize hK2 : VS _ _ _ = KK2; simp [hF]; try subst hK1; try subst hK2)
    try refine VS.ret ?_
    repeat first | refine blockN_ret ?_ | refine loopN_ret ?_
    refine endK.of [2] [0, 1] [] (by simp [hF]) (by simp [covers, mpre]) ?_
    simp [hF, retK]
  · repeat first
      | refine VS.seq ?_
      | refine VS.skip ?_
      | refine VS.block ?_
      | refine VS.nil ?_
      | refine blockN_normal ?_
      | refine loopN_normal ?_
      | refine VS.exit ?_
      | refine blockN_hit ?_
      | refine blockN_miss (by decide) ?_
      | refine loopN_exit ?_
      | refine ⟨⟨by omega, by omega⟩, ?_⟩
      | (refine VS.region tabOk (id := 0) [] (by kernel_rfl) ?_; generalize hK : VS _ _ _ = KK; simp [hF]; try subst hK; try (refine VS.keep [0] ?_; generalize hK : VS _ _ _ = KK; simp; try subst hK))
      | (refine VS.region tabOk (id := 1) [] (by kernel_rfl) ?_; generalize hK : VS _ _ _ = KK; simp [hF]; try subst hK; try (refine VS.keep [0, 4] ?_; generalize hK : VS _ _ _ = KK; simp; try subst hK))
      | (refine VS.region tabOk (id := 2) [] (by kernel_rfl) ?_; generalize hK : VS _ _ _ = KK; simp [hF]; try subst hK; try (refine VS.keep [2] ?_; generalize hK : VS _ _ _ = KK; simp; try subst hK))
      | (refine VS.region tabOk (id := 3) [] (by kernel_rfl) ?_; generalize hK : VS _ _ _ = KK; simp [hF]; try subst hK; try (refine VS.keep [2] ?_; generalize hK : VS _ _ _ = KK; simp; try subst hK))
      | (refine VS.cond ?_; generalize hK1 : VS _ _ _ = KK1; generalize hK2 : VS _ _ _ = KK2; simp [hF]; try subst hK1; try subst hK2)
    refine VS.hold0 2 1 (by simp) ?_
    subst h0
    try refine VS.ret ?_
    repeat first | refine blockN_ret ?_ | refine loopN_ret ?_
    refine endK.of [2] [0, 1] [] (by simp [hF]) (by simp [covers, mpre]) ?_
    simp [hF, retK, dInts]

/- slices.Clip[[]int,int] -/
theorem clipInt_ok (own ex : Bool) (l : List Int) : Meets Try.prog 65 [.sl own () 1 (dInts l)] (.cons (.sub 0 [] 0 l.length ex) .nil)
    fun av X κ => av = .sub 0 [] 0 l.length true ∧ X = [.sl own () 1 (dInts l)] ∧ κ = [] := by
  refine Meets.of_vs tabOk Try.func65 (body := ?_) ?_ (by kernel_rfl) Try.ntmps65 (rs := [.tmp 2]) (by kernel_rfl) rfl (by simp [AV.len]) (by simp only [envOf]; exact rfl) ?_
  rotate_left
  · rfl
  intro w0 I0 F0 hF
  repeat first
    | refine VS.seq ?_
    | refine VS.skip ?_
    | refine VS.block ?_
    | refine VS.nil ?_
    | refine blockN_normal ?_
    | refine loopN_normal ?_
    | refine VS.exit ?_
    | refine blockN_hit ?_
    | refine blockN_miss (by decide) ?_
    | refine loopN_exit ?_
    | refine ⟨⟨by omega, by omega⟩, ?_⟩
    | (refine VS.region tabOk (id := 0) [] (by kernel_rfl) ?_; generalize hK : VS _ _ _ = KK; simp [hF]; try subst hK; try (refine VS.keep [0] ?_; generalize hK : VS _ _ _ = KK; simp; try subst hK))
    | (refine VS.region tabOk (id := 1) [] (by kernel_rfl) ?_; generalize hK : VS _ _ _ = KK; simp [hF]; try subst hK; try (refine VS.keep [2] ?_; generalize hK : VS _ _ _ = KK; simp; try subst hK))
    | (refine VS.cond ?_; generalize hK1 : VS _ _ _ = KK1; generalize hK2 : VS _ _ _ = KK2; simp [hF]; try subst hK1; try subst hK2)
  try refine VS.ret ?_
  repeat first | refine blockN_ret ?_ | refine loopN_ret ?_
  refine endK.of [2] [0] [] (by simp [hF]) (by simp [covers, mpre]) ?_
  simp [hF, retK]

/-- The place of a text in a list, -1: it is not there. -/
abbrev posIn (n : ByteArray) (l : List ByteArray) : Int := posBy (fun x => decide (x = n)) l

/- slices.Index[[]string,string] -/
theorem index_ok (own ex : Bool) (l : List ByteArray) (n0 : ByteArray) (hl : l.length ≤ 1000000) : Meets Try.prog 41 [.sl own () 1 (dStrs l)] (.cons (.sub 0 [] 0 l.length ex) (.cons (.val (.string n0)) .nil))
    fun av X κ => av = .val (.int .i64 (posIn n0 l)) ∧ X = [.sl own () 1 (dStrs l)] ∧ κ = [] := by
  refine Meets.of_vs tabOk Try.func41 (body := ?_) ?_ (by kernel_rfl) Try.ntmps41 (rs := [.tmp 4]) (by kernel_rfl) rfl (by simp [AV.len]) (by simp only [envOf]; exact rfl) ?_
  rotate_left
  · rfl
  intro w0 I0 F0 hF
  repeat first
    | refine VS.seq ?_
    | refine VS.skip ?_
    | refine VS.block ?_
    | refine VS.nil ?_
    | refine blockN_normal ?_
    | refine loopN_normal ?_
    | refine VS.exit ?_
    | refine blockN_hit ?_
    | refine blockN_miss (by decide) ?_
    | refine loopN_exit ?_
    | refine ⟨⟨by omega, by omega⟩, ?_⟩
    | (refine VS.region tabOk (id := 0) [] (by kernel_rfl) ?_; generalize hK : VS _ _ _ = KK; simp [hF]; try subst hK; try (refine VS.keep [0, 1] ?_; generalize hK : VS _ _ _ = KK; simp; try subst hK))
    | (refine VS.region tabOk (id := 1) [] (by kernel_rfl) ?_; generalize hK : VS _ _ _ = KK; simp [hF]; try subst hK; try (refine VS.keep [0, 1, 7, 8] ?_; generalize hK : VS _ _ _ = KK; simp; try subst hK))
    | (refine VS.region tabOk (id := 2) [] (by kernel_rfl) ?_; generalize hK : VS _ _ _ = KK; simp [hF]; try subst hK; try (refine VS.keep [0, 1, 7, 8, 9] ?_; generalize hK : VS _ _ _ = KK; simp; try subst hK))
    | (refine VS.region tabOk (id := 3) [] (by kernel_rfl) ?_; generalize hK : VS _ _ _ = KK; simp [hF]; try subst hK; try (refine VS.keep [0, 1, 5, 7, 8] ?_; generalize hK : VS _ _ _ = KK; simp; try subst hK))
    | (refine VS.region tabOk (id := 4) [] (by kernel_rfl) ?_; generalize hK : VS _ _ _ = KK; simp [hF]; try subst hK; try (refine VS.keep [0, 1, 5, 7, 8, 16] ?_; generalize hK : VS _ _ _ = KK; simp; try subst hK))
    | (refine VS.region tabOk (id := 5) [] (by kernel_rfl) ?_; generalize hK : VS _ _ _ = KK; simp [hF]; try subst hK; try (refine VS.keep [4] ?_; generalize hK : VS _ _ _ = KK; simp; try subst hK))
    | (refine VS.region tabOk (id := 6) [] (by kernel_rfl) ?_; generalize hK : VS _ _ _ = KK; simp [hF]; try subst hK; try (refine VS.keep [0, 1, 7, 8] ?_; generalize hK : VS _ _ _ = KK; simp; try subst hK))
    | (refine VS.region tabOk (id := 7) [] (by kernel_rfl) ?_; generalize hK : VS _ _ _ = KK; simp [hF]; try subst hK; try (refine VS.keep [4] ?_; generalize hK : VS _ _ _ = KK; simp; try subst hK))
    | (refine VS.cond ?_; generalize hK1 : VS _ _ _ = KK1; generalize hK2 : VS _ _ _ = KK2; simp [hF]; try subst hK1; try subst hK2)
  refine VS.pick [8, 7, 0, 1] [0] (by simp [hF]) ?_
  generalize hK : VS _ _ _ = KK; simp [hF]; try subst hK
  refine VS.rounds (fun n st => ∃ (i : Nat), i + n = l.length ∧ (∀ j, j < i → ∀ hj : j < l.length, l[j] ≠ n0) ∧
    st = ⟨[(8, .val (.int .i64 (i : Int))), (7, .val (.int .i64 (l.length : Int))), (0, .sub 0 [] 0 l.length ex), (1, .val (.string n0))], [.sl own () 1 (dStrs l)], [], []⟩) ⟨l.length, 0, by simp, by simp, rfl⟩ ?_
  rintro n st ⟨i, hi, hall, rfl⟩
  repeat first
    | refine VS.seq ?_
    | refine VS.skip ?_
    | refine VS.block ?_
    | refine VS.nil ?_
    | refine blockN_normal ?_
    | refine loopN_normal ?_
    | refine VS.exit ?_
    | refine blockN_hit ?_
    | refine blockN_miss (by decide) ?_
    | refine loopN_exit ?_
    | refine ⟨⟨by omega, by omega⟩, ?_⟩
    | (refine VS.region tabOk (id := 0) [] (by kernel_rfl) ?_; generalize hK : VS _ _ _ = KK; simp [hF]; try subst hK; try (refine VS.keep [0, 1] ?_; generalize hK : VS _ _ _ = KK; simp; try subst hK))
    | (refine VS.region tabOk (id := 1) [] (by kernel_rfl) ?_; generalize hK : VS _ _ _ = KK; simp [hF]; try subst hK; try (refine VS.keep [0, 1, 7, 8] ?_; generalize hK : VS _ _ _ = KK; simp; try subst hK))
    | (refine VS.region tabOk (id := 2) [] (by kernel_rfl) ?_; generalize hK : VS _ _ _ = KK; simp [hF]; try subst hK; try (refine VS.keep [0, 1, 7, 8, 9] ?_; generalize hK : VS _ _ _ = KK; simp; try subst hK))
    | (refine VS.region tabOk (id := 3) [] (by kernel_rfl) ?_; generalize hK : VS _ _ _ = KK; simp [hF]; try subst hK; try (refine VS.keep [0, 1, 5, 7, 8] ?_; generalize hK : VS _ _ _ = KK; simp; try subst hK))
    | (refine VS.region tabOk (id := 4) [] (by kernel_rfl) ?_; generalize hK : VS _ _ _ = KK; simp [hF]; try subst hK; try (refine VS.keep [0, 1, 5, 7, 8, 16] ?_; generalize hK : VS _ _ _ = KK; simp; try subst hK))
    | (refine VS.region tabOk (id := 5) [] (by kernel_rfl) ?_; generalize hK : VS _ _ _ = KK; simp [hF]; try subst hK; try (refine VS.keep [4] ?_; generalize hK : VS _ _ _ = KK; simp; try subst hK))
    | (refine VS.region tabOk (id := 6) [] (by kernel_rfl) ?_; generalize hK : VS _ _ _ = KK; simp [hF]; try subst hK; try (refine VS.keep [0, 1, 7, 8] ?_; generalize hK : VS _ _ _ = KK; simp; try subst hK))
    | (refine VS.region tabOk (id := 7) [] (by kernel_rfl) ?_; generalize hK : VS _ _ _ = KK; simp [hF]; try subst hK; try (refine VS.keep [4] ?_; generalize hK : VS _ _ _ = KK; simp; try subst hK))
    | (refine VS.cond ?_; generalize hK1 : VS _ _ _ = KK1; generalize hK2 : VS _ _ _ = KK2; simp [hF]; try subst hK1; try subst hK2)
  refine ⟨fun hlt => ?_, fun hge => ?_⟩
  · have hs := dStrs_nth hlt
    repeat first
      | refine VS.seq ?_
      | refine VS.skip ?_
      | refine VS.block ?_
      | refine VS.nil ?_
      | refine blockN_normal ?_
      | refine loopN_normal ?_
      | refine VS.exit ?_
      | refine blockN_hit ?_
      | refine blockN_miss (by decide) ?_
      | refine loopN_exit ?_
      | refine ⟨⟨by omega, by omega⟩, ?_⟩
      | (refine VS.region tabOk (id := 0) [] (by kernel_rfl) ?_; generalize hK : VS _ _ _ = KK; simp [hF, hlt, hs]; try subst hK; try (refine VS.keep [0, 1] ?_; generalize hK : VS _ _ _ = KK; simp; try subst hK))
      | (refine VS.region tabOk (id := 1) [] (by kernel_rfl) ?_; generalize hK : VS _ _ _ = KK; simp [hF, hlt, hs]; try subst hK; try (refine VS.keep [0, 1, 7, 8] ?_; generalize hK : VS _ _ _ = KK; simp; try subst hK))
      | (refine VS.region tabOk (id := 2) [] (by kernel_rfl) ?_; generalize hK : VS _ _ _ = KK; simp [hF, hlt, hs]; try subst hK; try (refine VS.keep [0, 1, 7, 8, 9] ?_; generalize hK : VS _ _ _ = KK; simp; try subst hK))
      | (refine VS.region tabOk (id := 3) [] (by kernel_rfl) ?_; generalize hK : VS _ _ _ = KK; simp [hF, hlt, hs]; try subst hK; try (refine VS.keep [0, 1, 5, 7, 8] ?_; generalize hK : VS _ _ _ = KK; simp; try subst hK))
      | (refine VS.region tabOk (id := 4) [] (by kernel_rfl) ?_; generalize hK : VS _ _ _ = KK; simp [hF, hlt, hs]; try subst hK; try (refine VS.keep [0, 1, 5, 7, 8, 16] ?_; generalize hK : VS _ _ _ = KK; simp; try subst hK))
      | (refine VS.region tabOk (id := 5) [] (by kernel_rfl) ?_; generalize hK : VS _ _ _ = KK; simp [hF, hlt, hs]; try subst hK; try (refine VS.keep [4] ?_; generalize hK : VS _ _ _ = KK; simp; try subst hK))
      | (refine VS.region tabOk (id := 6) [] (by kernel_rfl) ?_; generalize hK : VS _ _ _ = KK; simp [hF, hlt, hs]; try subst hK; try (refine VS.keep [0, 1, 7, 8] ?_; generalize hK : VS _ _ _ = KK; simp; try subst hK))
      | (refine VS.region tabOk (id := 7) [] (by kernel_rfl) ?_; generalize hK : VS _ _ _ = KK; simp [hF, hlt, hs]; try subst hK; try (refine VS.keep [4] ?_; generalize hK : VS _ _ _ = KK; simp; try subst hK))
      | (refine VS.cond ?_; generalize hK1 : VS _ _ _ = KK1; generalize hK2 : VS _ _ _ = KK2; simp [hF, hlt, hs]; try subst hK1; try subst hK2)
    refine ⟨fun he => ?_, fun he => ?_⟩
    · repeat first
        | refine VS.seq ?_
        | refine VS.skip ?_
        | refine VS.block ?_
        | refine VS.nil ?_
        | refine blockN_normal ?_
        | refine loopN_normal ?_
        | refine VS.exit ?_
        | refine blockN_hit ?_
        | refine blockN_miss (by decide) ?_
        | refine loopN_exit ?_
        | refine ⟨⟨by omega, by omega⟩, ?_⟩
        | (refine VS.region tabOk (id := 0) [] (by kernel_rfl) ?_; generalize hK : VS _ _ _ = KK; simp [hF]; try subst hK; try (refine VS.keep [0, 1] ?_; generalize hK : VS _ _ _ = KK; simp; try subst hK))
        | (refine VS.region tabOk (id := 1) [] (by kernel_rfl) ?_; generalize hK : VS _ _ _ = KK; simp [hF]; try subst hK; try (refine VS.keep [0, 1, 7, 8] ?_; generalize hK : VS _ _ _ = KK; simp; try subst hK))
        | (refine VS.region tabOk (id := 2) [] (by kernel_rfl) ?_; generalize hK : VS _ _ _ = KK; simp [hF]; try subst hK; try (refine VS.keep [0, 1, 7, 8, 9] ?_; generalize hK : VS _ _ _ = KK; simp; try subst hK))
        | (refine VS.region tabOk (id := 3) [] (by kernel_rfl) ?_; generalize hK : VS _ _ _ = KK; simp [hF]; try subst hK; try (refine VS.keep [0, 1, 5, 7, 8] ?_; generalize hK : VS _ _ _ = KK; simp; try subst hK))
        | (refine VS.region tabOk (id := 4) [] (by kernel_rfl) ?_; generalize hK : VS _ _ _ = KK; simp [hF]; try subst hK; try (refine VS.keep [0, 1, 5, 7, 8, 16] ?_; generalize hK : VS _ _ _ = KK; simp; try subst hK))
        | (refine VS.region tabOk (id := 5) [] (by kernel_rfl) ?_; generalize hK : VS _ _ _ = KK; simp [hF]; try subst hK; try (refine VS.keep [4] ?_; generalize hK : VS _ _ _ = KK; simp; try subst hK))
        | (refine VS.region tabOk (id := 6) [] (by kernel_rfl) ?_; generalize hK : VS _ _ _ = KK; simp [hF]; try subst hK; try (refine VS.keep [0, 1, 7, 8] ?_; generalize hK : VS _ _ _ = KK; simp; try subst hK))
        | (refine VS.region tabOk (id := 7) [] (by kernel_rfl) ?_; generalize hK : VS _ _ _ = KK; simp [hF]; try subst hK; try (refine VS.keep [4] ?_; generalize hK : VS _ _ _ = KK; simp; try subst hK))
        | (refine VS.cond ?_; generalize hK1 : VS _ _ _ = KK1; generalize hK2 : VS _ _ _ = KK2; simp [hF]; try subst hK1; try subst hK2)
      try refine VS.ret ?_
      repeat first | refine blockN_ret ?_ | refine loopN_ret ?_
      refine endK.of [4] [0] [] (by simp [hF]) (by simp [covers, mpre]) ?_
      simp [hF, retK]
      exact (posBy_at hlt (by simpa using he.symm) fun j hj hj' => by simpa using hall j hj hj').symm
    · repeat first
        | refine VS.seq ?_
        | refine VS.skip ?_
        | refine VS.block ?_
        | refine VS.nil ?_
        | refine blockN_normal ?_
        | refine loopN_normal ?_
        | refine VS.exit ?_
        | refine blockN_hit ?_
        | refine blockN_miss (by decide) ?_
        | refine loopN_exit ?_
        | refine ⟨⟨by omega, by omega⟩, ?_⟩
        | (refine VS.region tabOk (id := 0) [] (by kernel_rfl) ?_; generalize hK : VS _ _ _ = KK; simp [hF]; try subst hK; try (refine VS.keep [0, 1] ?_; generalize hK : VS _ _ _ = KK; simp; try subst hK))
        | (refine VS.region tabOk (id := 1) [] (by kernel_rfl) ?_; generalize hK : VS _ _ _ = KK; simp [hF]; try subst hK; try (refine VS.keep [0, 1, 7, 8] ?_; generalize hK : VS _ _ _ = KK; simp; try subst hK))
        | (refine VS.region tabOk (id := 2) [] (by kernel_rfl) ?_; generalize hK : VS _ _ _ = KK; simp [hF]; try subst hK; try (refine VS.keep [0, 1, 7, 8, 9] ?_; generalize hK : VS _ _ _ = KK; simp; try subst hK))
        | (refine VS.region tabOk (id := 3) [] (by kernel_rfl) ?_; generalize hK : VS _ _ _ = KK; simp [hF]; try subst hK; try (refine VS.keep [0, 1, 5, 7, 8] ?_; generalize hK : VS _ _ _ = KK; simp; try subst hK))
        | (refine VS.region tabOk (id := 4) [] (by kernel_rfl) ?_; generalize hK : VS _ _ _ = KK; simp [hF]; try subst hK; try (refine VS.keep [0, 1, 5, 7, 8, 16] ?_; generalize hK : VS _ _ _ = KK; simp; try subst hK))
        | (refine VS.region tabOk (id := 5) [] (by kernel_rfl) ?_; generalize hK : VS _ _ _ = KK; simp [hF]; try subst hK; try (refine VS.keep [4] ?_; generalize hK : VS _ _ _ = KK; simp; try subst hK))
        | (refine VS.region tabOk (id := 6) [] (by kernel_rfl) ?_; generalize hK : VS _ _ _ = KK; simp [hF]; try subst hK; try (refine VS.keep [0, 1, 7, 8] ?_; generalize hK : VS _ _ _ = KK; simp; try subst hK))
        | (refine VS.region tabOk (id := 7) [] (by kernel_rfl) ?_; generalize hK : VS _ _ _ = KK; simp [hF]; try subst hK; try (refine VS.keep [4] ?_; generalize hK : VS _ _ _ = KK; simp; try subst hK))
        | (refine VS.cond ?_; generalize hK1 : VS _ _ _ = KK1; generalize hK2 : VS _ _ _ = KK2; simp [hF]; try subst hK1; try subst hK2)
      refine nextK.of [8, 7, 0, 1] [0] (n - 1) (by omega) (by simp [hF]) ?_
      refine ⟨i + 1, ?_, ?_, ?_⟩
      · omega
      · intro j hj hj'
        rcases Nat.lt_or_ge j i with h | h
        · exact hall j h hj'
        · obtain rfl : j = i := by omega
          exact fun e => he e.symm
      · simp
        exact IntWalk.i64_in _ (by omega)
  · repeat first
      | refine VS.seq ?_
      | refine VS.skip ?_
      | refine VS.block ?_
      | refine VS.nil ?_
      | refine blockN_normal ?_
      | refine loopN_normal ?_
      | refine VS.exit ?_
      | refine blockN_hit ?_
      | refine blockN_miss (by decide) ?_
      | refine loopN_exit ?_
      | refine ⟨⟨by omega, by omega⟩, ?_⟩
      | (refine VS.region tabOk (id := 0) [] (by kernel_rfl) ?_; generalize hK : VS _ _ _ = KK; simp [hF]; try subst hK; try (refine VS.keep [0, 1] ?_; generalize hK : VS _ _ _ = KK; simp; try subst hK))
      | (refine VS.region tabOk (id := 1) [] (by kernel_rfl) ?_; generalize hK : VS _ _ _ = KK; simp [hF]; try subst hK; try (refine VS.keep [0, 1, 7, 8] ?_; generalize hK : VS _ _ _ = KK; simp; try subst hK))
      | (refine VS.region tabOk (id := 2) [] (by kernel_rfl) ?_; generalize hK : VS _ _ _ = KK; simp [hF]; try subst hK; try (refine VS.keep [0, 1, 7, 8, 9] ?_; generalize hK : VS _ _ _ = KK; simp; try subst hK))
      | (refine VS.region tabOk (id := 3) [] (by kernel_rfl) ?_; generalize hK : VS _ _ _ = KK; simp [hF]; try subst hK; try (refine VS.keep [0, 1, 5, 7, 8] ?_; generalize hK : VS _ _ _ = KK; simp; try subst hK))
      | (refine VS.region tabOk (id := 4) [] (by kernel_rfl) ?_; generalize hK : VS _ _ _ = KK; simp [hF]; try subst hK; try (refine VS.keep [0, 1, 5, 7, 8, 16] ?_; generalize hK : VS _ _ _ = KK; simp; try subst hK))
      | (refine VS.region tabOk (id := 5) [] (by kernel_rfl) ?_; generalize hK : VS _ _ _ = KK; simp [hF]; try subst hK; try (refine VS.keep [4] ?_; generalize hK : VS _ _ _ = KK; simp; try subst hK))
      | (refine VS.region tabOk (id := 6) [] (by kernel_rfl) ?_; generalize hK : VS _ _ _ = KK; simp [hF]; try subst hK; try (refine VS.keep [0, 1, 7, 8] ?_; generalize hK : VS _ _ _ = KK; simp; try subst hK))
      | (refine VS.region tabOk (id := 7) [] (by kernel_rfl) ?_; generalize hK : VS _ _ _ = KK; simp [hF]; try subst hK; try (refine VS.keep [4] ?_; generalize hK : VS _ _ _ = KK; simp; try subst hK))
      | (refine VS.cond ?_; generalize hK1 : VS _ _ _ = KK1; generalize hK2 : VS _ _ _ = KK2; simp [hF]; try subst hK1; try subst hK2)
    try refine VS.ret ?_
    repeat first | refine blockN_ret ?_ | refine loopN_ret ?_
    refine endK.of [4] [0] [] (by simp [hF]) (by simp [covers, mpre]) ?_
    simp [hF, retK]
    exact (posBy_none fun j hj => by simpa using hall j (by omega) hj).symm

/- slices.Reverse[[]string,string] -/
theorem reverse_ok (ex : Bool) (l : List ByteArray) (hl : l.length ≤ 1000000) : Meets Try.prog 68 [.sl true () 1 (dStrs l)] (.cons (.sub 0 [] 0 l.length ex) .nil)
    fun av X κ => av = .tup .nil ∧ X = [.sl true () 1 (dStrs l.reverse)] ∧ κ = [] := by
  refine Meets.of_vs tabOk Try.func68 (body := ?_) ?_ (by kernel_rfl) Try.ntmps68 (rs := []) (by kernel_rfl) rfl (by simp [AV.len]) (by simp only [envOf]; exact rfl) ?_
  rotate_left
  · rfl
  intro w0 I0 F0 hF
  repeat first
    | refine VS.seq ?_
    | refine VS.skip ?_
    | refine VS.block ?_
    | refine VS.nil ?_
    | refine blockN_normal ?_
    | refine loopN_normal ?_
    | refine VS.exit ?_
    | refine blockN_hit ?_
    | refine blockN_miss (by decide) ?_
    | refine loopN_exit ?_
    | refine ⟨⟨by omega, by omega⟩, ?_⟩
    | (refine VS.region tabOk (id := 0) [] (by kernel_rfl) ?_; generalize hK : VS _ _ _ = KK; simp [hF]; try subst hK; try (refine VS.keep [0, 2, 3] ?_; generalize hK : VS _ _ _ = KK; simp; try subst hK))
    | (refine VS.region tabOk (id := 1) [] (by kernel_rfl) ?_; generalize hK : VS _ _ _ = KK; simp [hF]; try subst hK; try (refine VS.keep [0, 2, 3, 9] ?_; generalize hK : VS _ _ _ = KK; simp; try subst hK))
    | (refine VS.region tabOk (id := 2) [] (by kernel_rfl) ?_; generalize hK : VS _ _ _ = KK; simp [hF]; try subst hK; try (refine VS.keep [0, 2, 3] ?_; generalize hK : VS _ _ _ = KK; simp; try subst hK))
    | (refine VS.drawn tabOk mixedOk (id := 3) [] [⟨0, 1, 16384, 5⟩, ⟨0, 4, 32768, 5⟩, ⟨0, 1, 65536, 5⟩, ⟨0, 8, 131072, 5⟩, ⟨0, 1, 262144, 5⟩, ⟨0, 8, 524288, 5⟩, ⟨48, 786432, 1048576, 5⟩, ⟨64, 1048576, 2097152, 6⟩, ⟨0, 1, 4194304, 5⟩, ⟨0, 4, 8388608, 5⟩, ⟨768, 12582912, 16777216, 5⟩, ⟨1024, 16777216, 33554432, 6⟩, ⟨2291, 49152, 67108864, 5⟩, ⟨6387, 69206016, 0, 0⟩, ⟨16383, 196608, 134217728, 5⟩, ⟨32767, 167772160, 0, 0⟩] (.take 0 (.take 1 (.take 2 (.take 3 (.take 4 (.take 5 (.take 6 (.take 7 (.take 8 (.take 9 (.take 10 (.take 11 (.take 12 (.fork (.alt 13 (.take 14 (.fork (.alt 15 (.done) (.nil)))) (.nil)))))))))))))))) (.run [0, 1, 2, 3, 4, 5, 6, 7, 8, 9, 10, 11, 12, 13, 14, 15] (.done)) (by kernel_rfl) (by kernel_rfl) (by kernel_rfl) ?_; generalize hK : VS _ _ _ = KK; simp only [opsVc_run, opsVc_both, opsVc_done, opsVc_yes, pick_cons, pick_nil, List.getElem?_cons_zero, List.getElem?_cons_succ]; simp [hF]; try subst hK; try (refine VS.keep [0, 2, 3] ?_; generalize hK : VS _ _ _ = KK; simp; try subst hK))
    | (refine VS.cond ?_; generalize hK1 : VS _ _ _ = KK1; generalize hK2 : VS _ _ _ = KK2; simp [hF]; try subst hK1; try subst hK2)
  refine VS.pick [2, 3, 0] [0] (by simp [hF]) ?_
  generalize hK : VS _ _ _ = KK; simp [hF]; try subst hK
  refine VS.rounds (fun n st => ∃ (i : Nat) (l' : List ByteArray), l'.length = l.length ∧ n = l.length - i ∧ 2 * i ≤ l.length + 1 ∧
    (∀ k, ∀ hk : k < l.length, l'[k]? = if k < i ∨ l.length ≤ k + i then l[l.length - 1 - k]? else l[k]?) ∧
    st = ⟨[(2, .val (.int .i64 (i : Int))), (3, .val (.int .i64 ((l.length : Int) - 1 - i))), (0, .sub 0 [] 0 l.length ex)], [.sl true () 1 (dStrs l')], [], []⟩)
    ⟨l.length, 0, l, rfl, by simp, by omega, fun k hk => by rw [if_neg (by omega)], by simp; exact IntWalk.i64_in _ (by omega)⟩ ?_
  rintro n st ⟨i, l', hl', hn, hi, hall, rfl⟩
  repeat first
    | refine VS.seq ?_
    | refine VS.skip ?_
    | refine VS.block ?_
    | refine VS.nil ?_
    | refine blockN_normal ?_
    | refine loopN_normal ?_
    | refine VS.exit ?_
    | refine blockN_hit ?_
    | refine blockN_miss (by decide) ?_
    | refine loopN_exit ?_
    | refine ⟨⟨by omega, by omega⟩, ?_⟩
    | (refine VS.region tabOk (id := 0) [] (by kernel_rfl) ?_; generalize hK : VS _ _ _ = KK; simp [hF]; try subst hK; try (refine VS.keep [0, 2, 3] ?_; generalize hK : VS _ _ _ = KK; simp; try subst hK))
    | (refine VS.region tabOk (id := 1) [] (by kernel_rfl) ?_; generalize hK : VS _ _ _ = KK; simp [hF]; try subst hK; try (refine VS.keep [0, 2, 3, 9] ?_; generalize hK : VS _ _ _ = KK; simp; try subst hK))
    | (refine VS.region tabOk (id := 2) [] (by kernel_rfl) ?_; generalize hK : VS _ _ _ = KK; simp [hF]; try subst hK; try (refine VS.keep [0, 2, 3] ?_; generalize hK : VS _ _ _ = KK; simp; try subst hK))
    | (refine VS.drawn tabOk mixedOk (id := 3) [] [⟨0, 1, 16384, 5⟩, ⟨0, 4, 32768, 5⟩, ⟨0, 1, 65536, 5⟩, ⟨0, 8, 131072, 5⟩, ⟨0, 1, 262144, 5⟩, ⟨0, 8, 524288, 5⟩, ⟨48, 786432, 1048576, 5⟩, ⟨64, 1048576, 2097152, 6⟩, ⟨0, 1, 4194304, 5⟩, ⟨0, 4, 8388608, 5⟩, ⟨768, 12582912, 16777216, 5⟩, ⟨1024, 16777216, 33554432, 6⟩, ⟨2291, 49152, 67108864, 5⟩, ⟨6387, 69206016, 0, 0⟩, ⟨16383, 196608, 134217728, 5⟩, ⟨32767, 167772160, 0, 0⟩] (.take 0 (.take 1 (.take 2 (.take 3 (.take 4 (.take 5 (.take 6 (.take 7 (.take 8 (.take 9 (.take 10 (.take 11 (.take 12 (.fork (.alt 13 (.take 14 (.fork (.alt 15 (.done) (.nil)))) (.nil)))))))))))))))) (.run [0, 1, 2, 3, 4, 5, 6, 7, 8, 9, 10, 11, 12, 13, 14, 15] (.done)) (by kernel_rfl) (by kernel_rfl) (by kernel_rfl) ?_; generalize hK : VS _ _ _ = KK; simp only [opsVc_run, opsVc_both, opsVc_done, opsVc_yes, pick_cons, pick_nil, List.getElem?_cons_zero, List.getElem?_cons_succ]; simp [hF]; try subst hK; try (refine VS.keep [0, 2, 3] ?_; generalize hK : VS _ _ _ = KK; simp; try subst hK))
    | (refine VS.cond ?_; generalize hK1 : VS _ _ _ = KK1; generalize hK2 : VS _ _ _ = KK2; simp [hF]; try subst hK1; try subst hK2)
  refine ⟨fun hlt => ?_, fun hge => ?_⟩
  · have hj : ((l.length : Int) - 1 - i).toNat = l.length - 1 - i := by omega
    have h1 : i < l'.length := by omega
    have h2 : l.length - 1 - i < l'.length := by omega
    have h3 := dStrs_nth h1
    have h4 := dStrs_nth h2
    have h5 : T.nth (dStrs (l'.set i l'[l.length - 1 - i])) (l.length - 1 - i) = T.val (.string l'[l.length - 1 - i]) := by
      rw [dStrs_nth (by simpa using h2)]
      rw [List.getElem_set_ne (by omega)]
    have h6 : l.length - 1 - i < l.length := by omega
    have h7 : i < l.length := by omega
    have h8 : (i : Int) ≤ l.length - 1 := by omega
    have h9 : (l.length : Int) - 1 - i < l.length := by omega
    repeat first
      | refine VS.seq ?_
      | refine VS.skip ?_
      | refine VS.block ?_
      | refine VS.nil ?_
      | refine blockN_normal ?_
      | refine loopN_normal ?_
      | refine VS.exit ?_
      | refine blockN_hit ?_
      | refine blockN_miss (by decide) ?_
      | refine loopN_exit ?_
      | refine ⟨⟨by omega, by omega⟩, ?_⟩
      | (refine VS.region tabOk (id := 0) [] (by kernel_rfl) ?_; generalize hK : VS _ _ _ = KK; simp [hF, hj, h1, h2, h3, h4, h5, h6, h7, h8, h9, hl']; try subst hK; try (refine VS.keep [0, 2, 3] ?_; generalize hK : VS _ _ _ = KK; simp; try subst hK))
      | (refine VS.region tabOk (id := 1) [] (by kernel_rfl) ?_; generalize hK : VS _ _ _ = KK; simp [hF, hj, h1, h2, h3, h4, h5, h6, h7, h8, h9, hl']; try subst hK; try (refine VS.keep [0, 2, 3, 9] ?_; generalize hK : VS _ _ _ = KK; simp; try subst hK))
      | (refine VS.region tabOk (id := 2) [] (by kernel_rfl) ?_; generalize hK : VS _ _ _ = KK; simp [hF, hj, h1, h2, h3, h4, h5, h6, h7, h8, h9, hl']; try subst hK; try (refine VS.keep [0, 2, 3] ?_; generalize hK : VS _ _ _ = KK; simp; try subst hK))
      | (refine VS.drawn tabOk mixedOk (id := 3) [] [⟨0, 1, 16384, 5⟩, ⟨0, 4, 32768, 5⟩, ⟨0, 1, 65536, 5⟩, ⟨0, 8, 131072, 5⟩, ⟨0, 1, 262144, 5⟩, ⟨0, 8, 524288, 5⟩, ⟨48, 786432, 1048576, 5⟩, ⟨64, 1048576, 2097152, 6⟩, ⟨0, 1, 4194304, 5⟩, ⟨0, 4, 8388608, 5⟩, ⟨768, 12582912, 16777216, 5⟩, ⟨1024, 16777216, 33554432, 6⟩, ⟨2291, 49152, 67108864, 5⟩, ⟨6387, 69206016, 0, 0⟩, ⟨16383, 196608, 134217728, 5⟩, ⟨32767, 167772160, 0, 0⟩] (.take 0 (.take 1 (.take 2 (.take 3 (.take 4 (.take 5 (.take 6 (.take 7 (.take 8 (.take 9 (.take 10 (.take 11 (.take 12 (.fork (.alt 13 (.take 14 (.fork (.alt 15 (.done) (.nil)))) (.nil)))))))))))))))) (.run [0, 1, 2, 3, 4, 5, 6, 7, 8, 9, 10, 11, 12, 13, 14, 15] (.done)) (by kernel_rfl) (by kernel_rfl) (by kernel_rfl) ?_; generalize hK : VS _ _ _ = KK; simp only [opsVc_run, opsVc_both, opsVc_done, opsVc_yes, pick_cons, pick_nil, List.getElem?_cons_zero, List.getElem?_cons_succ]; simp [hF, hj, h1, h2, h3, h4, h5, h6, h7, h8, h9, hl']; try subst hK; try (refine VS.keep [0, 2, 3] ?_; generalize hK : VS _ _ _ = KK; simp; try subst hK))
      | (refine VS.cond ?_; generalize hK1 : VS _ _ _ = KK1; generalize hK2 : VS _ _ _ = KK2; simp [hF, hj, h1, h2, h3, h4, h5, h6, h7, h8, h9, hl']; try subst hK1; try subst hK2)
    refine nextK.of [2, 3, 0] [0] (n - 1) (by omega) (by simp [hF]) ?_
    refine ⟨i + 1, (l'.set i l'[l.length - 1 - i]).set (l.length - 1 - i) l'[i], by simp [hl'], by omega, by omega, fun k hk => ?_, ?_⟩
    · rw [List.getElem?_set, List.getElem?_set]
      have hki := hall k hk
      have hii := hall i h7
      have hjj := hall (l.length - 1 - i) h6
      have e1 : l.length - 1 - (l.length - 1 - i) = i := by omega
      rw [if_neg (by omega)] at hii hjj
      rw [List.getElem?_eq_getElem h1] at hii
      rw [List.getElem?_eq_getElem h2] at hjj
      by_cases c1 : l.length - 1 - i = k
      · subst c1
        rw [if_pos rfl, if_pos (by simpa using h2), if_pos (by omega), e1]; exact hii
      · by_cases c2 : i = k
        · subst c2
          rw [if_neg c1, if_pos rfl, if_pos h1, if_pos (by omega)]; exact hjj
        · rw [if_neg c1, if_neg c2, hki]
          by_cases c3 : k < i ∨ l.length ≤ k + i
          · rw [if_pos c3, if_pos (by omega)]
          · rw [if_neg c3, if_neg (by omega)]
    · simp
      exact ⟨IntWalk.i64_in _ (by omega), by rw [IntWalk.i64_in _ (by omega)]; omega⟩
  · repeat first
      | refine VS.seq ?_
      | refine VS.skip ?_
      | refine VS.block ?_
      | refine VS.nil ?_
      | refine blockN_normal ?_
      | refine loopN_normal ?_
      | refine VS.exit ?_
      | refine blockN_hit ?_
      | refine blockN_miss (by decide) ?_
      | refine loopN_exit ?_
      | refine ⟨⟨by omega, by omega⟩, ?_⟩
      | (refine VS.region tabOk (id := 0) [] (by kernel_rfl) ?_; generalize hK : VS _ _ _ = KK; simp [hF]; try subst hK; try (refine VS.keep [0, 2, 3] ?_; generalize hK : VS _ _ _ = KK; simp; try subst hK))
      | (refine VS.region tabOk (id := 1) [] (by kernel_rfl) ?_; generalize hK : VS _ _ _ = KK; simp [hF]; try subst hK; try (refine VS.keep [0, 2, 3, 9] ?_; generalize hK : VS _ _ _ = KK; simp; try subst hK))
      | (refine VS.region tabOk (id := 2) [] (by kernel_rfl) ?_; generalize hK : VS _ _ _ = KK; simp [hF]; try subst hK; try (refine VS.keep [0, 2, 3] ?_; generalize hK : VS _ _ _ = KK; simp; try subst hK))
      | (refine VS.drawn tabOk mixedOk (id := 3) [] [⟨0, 1, 16384, 5⟩, ⟨0, 4, 32768, 5⟩, ⟨0, 1, 65536, 5⟩, ⟨0, 8, 131072, 5⟩, ⟨0, 1, 262144, 5⟩, ⟨0, 8, 524288, 5⟩, ⟨48, 786432, 1048576, 5⟩, ⟨64, 1048576, 2097152, 6⟩, ⟨0, 1, 4194304, 5⟩, ⟨0, 4, 8388608, 5⟩, ⟨768, 12582912, 16777216, 5⟩, ⟨1024, 16777216, 33554432, 6⟩, ⟨2291, 49152, 67108864, 5⟩, ⟨6387, 69206016, 0, 0⟩, ⟨16383, 196608, 134217728, 5⟩, ⟨32767, 167772160, 0, 0⟩] (.take 0 (.take 1 (.take 2 (.take 3 (.take 4 (.take 5 (.take 6 (.take 7 (.take 8 (.take 9 (.take 10 (.take 11 (.take 12 (.fork (.alt 13 (.take 14 (.fork (.alt 15 (.done) (.nil)))) (.nil)))))))))))))))) (.run [0, 1, 2, 3, 4, 5, 6, 7, 8, 9, 10, 11, 12, 13, 14, 15] (.done)) (by kernel_rfl) (by kernel_rfl) (by kernel_rfl) ?_; generalize hK : VS _ _ _ = KK; simp only [opsVc_run, opsVc_both, opsVc_done, opsVc_yes, pick_cons, pick_nil, List.getElem?_cons_zero, List.getElem?_cons_succ]; simp [hF]; try subst hK; try (refine VS.keep [0, 2, 3] ?_; generalize hK : VS _ _ _ = KK; simp; try subst hK))
      | (refine VS.cond ?_; generalize hK1 : VS _ _ _ = KK1; generalize hK2 : VS _ _ _ = KK2; simp [hF]; try subst hK1; try subst hK2)
    try refine VS.ret ?_
    repeat first | refine blockN_ret ?_ | refine loopN_ret ?_
    refine endK.of [] [0] [] (by simp [hF]) (by simp [covers, mpre]) ?_
    simp [hF, retK]
    congr 1
    refine List.ext_getElem? fun k => ?_
    rcases Nat.lt_or_ge k l.length with hk | hk
    · rw [hall k hk, List.getElem?_reverse hk]
      by_cases c : k < i ∨ l.length ≤ k + i
      · rw [if_pos c]
      · rw [if_neg c]; congr 1; omega
    · rw [List.getElem?_eq_none (by omega), List.getElem?_eq_none (by simpa using hk)]
end Go.Proofs.Ythcndkpkkaphoaa

/- The state's own laws; what the deeds do, as plain functions. -/
namespace Go.Proofs.Ythcndkpkkaphoaa
set_option linter.all false
open Go.Vc Go.Proofs

/-- An object fits the shapes, and has at most 'N' names. -/
def ObOk (l : List Sh) (N : Nat) (o : Ob) : Prop :=
  o.words.length = o.names.length ∧ o.names.length ≤ N ∧ (o.shape = -1 ∨ ∃ (k : Nat) (hk : k < l.length), o.shape = k ∧ o.names = l[k].names)

structure ShOk (l : List Sh) : Prop where
  ns : l.length ≤ 200
  root : ∀ h : 0 < l.length, l[0] = ⟨-1, []⟩
  below : ∀ k (hk : k < l.length), 0 < k → ∃ (p : Nat) (hp : p < k) (n : ByteArray), l[k].parent = p ∧ l[k].names = l[p].names ++ [n]
  deep : ∀ k (hk : k < l.length), l[k].names.length ≤ 12

structure WF (S : Sp) (N : Nat) : Prop where
  sh : ShOk S.shapes
  no : S.objs.length ≤ 100
  ob : ∀ o ∈ S.objs, ObOk S.shapes N o

/-- The shape below one that adds a name. -/
def belowOf (l : List Sh) (p : Int) (n : ByteArray) : Int := posBy (fun s => decide (s.parent = p) && decide (lastName s.names = n)) l

/-- The shapes, and the object's, when an object gets a name more. -/
def stepSh (l : List Sh) (o : Ob) (n : ByteArray) : List Sh × Int :=
  if o.shape = -1 ∨ 12 ≤ o.names.length then (l, -1)
  else if 0 ≤ belowOf l o.shape n then (l, belowOf l o.shape n)
  else if 200 ≤ l.length then (l, -1)
  else (l ++ [⟨o.shape, o.names ++ [n]⟩], (l.length : Int))

def addOb (l : List Sh) (o : Ob) (n : ByteArray) (w : Int) : Ob := ⟨(stepSh l o n).2, o.names ++ [n], o.words ++ [w], o.frozen⟩

def addOf (S : Sp) (j : Nat) (o : Ob) (n : ByteArray) (w : Int) : Sp := ⟨(stepSh S.shapes o n).1, S.objs.set j (addOb S.shapes o n w)⟩

def obAt (S : Sp) (o : Int) : Ob := S.objs.getD o.toNat ⟨0, [], [], false⟩
theorem obAt_eq {S : Sp} {j : Nat} (hj : j < S.objs.length) : obAt S j = S.objs[j] := by simp [obAt, hj]

/-- What asking for a name answers. -/
def askOf (S : Sp) (o : Int) (n : ByteArray) (change : Bool) : Int :=
  if hasB S o = false then 1
  else if n = noName ∨ 40 < n.size then 6
  else if change = true ∧ (obAt S o).frozen = true then 13
  else 0

def setOb (S : Sp) (o : Int) (ob : Ob) : Sp := ⟨S.shapes, S.objs.set o.toNat ob⟩

/- The deeds: the space behind, and what is told. -/
def makeOf (S : Sp) : Sp × Int × Int :=
  if realB S = false then (S, 0, 1) else if 100 ≤ S.objs.length then (S, 0, 9) else (⟨S.shapes, S.objs ++ [⟨0, [], [], false⟩]⟩, (S.objs.length : Int), 0)

def setOf (S : Sp) (o : Int) (n : ByteArray) (w : Int) : Sp × Int :=
  if askOf S o n true ≠ 0 then (S, askOf S o n true)
  else if 0 ≤ posIn n (obAt S o).names then (setOb S o { obAt S o with words := (obAt S o).words.set (posIn n (obAt S o).names).toNat w }, 0)
  else (addOf S o.toNat (obAt S o) n w, 0)

def getOf (S : Sp) (o : Int) (n : ByteArray) : Int × Int :=
  if askOf S o n false ≠ 0 then (0, askOf S o n false)
  else if posIn n (obAt S o).names < 0 then (0, 3)
  else ((obAt S o).words.getD (posIn n (obAt S o).names).toNat 0, 0)

/-- The names of a list, but for one, are given to an object anew. -/
def refill (S : Sp) (j i : Nat) : Nat → List ByteArray → List Int → Sp
  | k, n :: ns, w :: ws => if k = i then refill S j i (k + 1) ns ws else refill (addOf S j (S.objs.getD j ⟨0, [], [], false⟩) n w) j i (k + 1) ns ws
  | _, _, _ => S

def deleteOf (S : Sp) (o : Int) (n : ByteArray) : Sp × Int × Int :=
  if askOf S o n true ≠ 0 then (S, 0, askOf S o n true)
  else if posIn n (obAt S o).names < 0 then (S, 0, 3)
  else (refill (setOb S o ⟨if (obAt S o).shape = -1 then -1 else 0, [], [], (obAt S o).frozen⟩) o.toNat (posIn n (obAt S o).names).toNat 0 (obAt S o).names (obAt S o).words,
    (obAt S o).words.getD (posIn n (obAt S o).names).toNat 0, 0)

def slotOf (S : Sp) (k : Int) (n : ByteArray) : Int × Int :=
  if shapedB S k = false then (0, 1) else if n = noName ∨ 40 < n.size then (0, 6)
  else if posIn n (S.shapes.getD k.toNat ⟨0, []⟩).names < 0 then (0, 3) else (posIn n (S.shapes.getD k.toNat ⟨0, []⟩).names, 0)

def parentOf (S : Sp) (k : Int) : Int × Int := if shapedB S k = false then (0, 1) else ((S.shapes.getD k.toNat ⟨0, []⟩).parent, 0)
def shapeOf (S : Sp) (o : Int) : Int × Int := if hasB S o = false then (0, 1) else ((obAt S o).shape, 0)
def freezeOf (S : Sp) (o : Int) : Sp × Int := if hasB S o = false then (S, 1) else (setOb S o { obAt S o with frozen := true }, 0)
def frozenOf (S : Sp) (o : Int) : Bool × Int := if hasB S o = false then (false, 1) else ((obAt S o).frozen, 0)
def cloneOf (S : Sp) (o : Int) : Sp × Int × Int :=
  if hasB S o = false then (S, 0, 1) else if 100 ≤ S.objs.length then (S, 0, 9)
  else (⟨S.shapes, S.objs ++ [{ obAt S o with frozen := false }]⟩, (S.objs.length : Int), 0)
def shapesOf (S : Sp) : Int := S.shapes.length

theorem ObOk.names_len {l : List Sh} {N : Nat} {o : Ob} (h : ObOk l N o) : o.names.length ≤ N := h.2.1

end Go.Proofs.Ythcndkpkkaphoaa

/- Names of shapes. -/
namespace Go.Proofs.Ythcndkpkkaphoaa
set_option linter.all false
open Go.Vc Go.Proofs
set_option linter.unusedSimpArgs false
set_option maxRecDepth 100000

/- (*cabochon/shape.Space).named -/
theorem named_ok (S : Sp) (hS : ShOk S.shapes) (k : Nat) (hk : k < S.shapes.length) : Meets Try.prog 56 [dSp S] (.cons (.ptr 0 [.d]) (.cons (.val (.int .i64 k)) .nil))
    fun av X κ => av = .sub 1 [] 0 S.shapes[k].names.length false ∧ X = [dSp S, .sl true () 1 (dStrs S.shapes[k].names)] ∧ κ = [] := by
  refine Meets.of_vs tabOk Try.func56 (body := ?_) ?_ (by kernel_rfl) Try.ntmps56 (rs := [.tmp 4]) (by kernel_rfl) rfl (by simp [AV.len]) (by simp only [envOf]; exact rfl) ?_
  rotate_left
  · rfl
  intro w0 I0 F0 hF
  repeat first
    | refine VS.seq ?_
    | refine VS.skip ?_
    | refine VS.block ?_
    | refine VS.nil ?_
    | refine blockN_normal ?_
    | refine loopN_normal ?_
    | refine VS.exit ?_
    | refine blockN_hit ?_
    | refine blockN_miss (by decide) ?_
    | refine loopN_exit ?_
    | refine ⟨⟨by omega, by omega⟩, ?_⟩
    | (refine VS.region tabOk (id := 0) [] (by kernel_rfl) ?_; generalize hK : VS _ _ _ = KK; simp [hF]; try subst hK; try (refine VS.keep [0, 1] ?_; generalize hK : VS _ _ _ = KK; simp; try subst hK))
    | (refine VS.region tabOk (id := 1) [] (by kernel_rfl) ?_; generalize hK : VS _ _ _ = KK; simp [hF]; try subst hK; try (refine VS.keep [0, 1, 5] ?_; generalize hK : VS _ _ _ = KK; simp; try subst hK))
    | (refine VS.region tabOk (id := 2) [] (by kernel_rfl) ?_; generalize hK : VS _ _ _ = KK; simp [hF]; try subst hK; try (refine VS.keep [0, 5, 6] ?_; generalize hK : VS _ _ _ = KK; simp; try subst hK))
    | (refine VS.region tabOk (id := 3) [] (by kernel_rfl) ?_; generalize hK : VS _ _ _ = KK; simp [hF]; try subst hK; try (refine VS.keep [0, 5, 6, 9] ?_; generalize hK : VS _ _ _ = KK; simp; try subst hK))
    | (refine VS.region tabOk (id := 4) [] (by kernel_rfl) ?_; generalize hK : VS _ _ _ = KK; simp [hF]; try subst hK; try (refine VS.keep [0, 5, 6] ?_; generalize hK : VS _ _ _ = KK; simp; try subst hK))
    | (refine VS.region tabOk (id := 5) [] (by kernel_rfl) ?_; generalize hK : VS _ _ _ = KK; simp [hF]; try subst hK; try (refine VS.keep [0, 5, 6] ?_; generalize hK : VS _ _ _ = KK; simp; try subst hK))
    | (refine VS.region tabOk (id := 6) [] (by kernel_rfl) ?_; generalize hK : VS _ _ _ = KK; simp [hF]; try subst hK; try (refine VS.keep [5] ?_; generalize hK : VS _ _ _ = KK; simp; try subst hK))
    | (refine VS.region tabOk (id := 7) [] (by kernel_rfl) ?_; generalize hK : VS _ _ _ = KK; simp [hF]; try subst hK; try (refine VS.keep [4] ?_; generalize hK : VS _ _ _ = KK; simp; try subst hK))
    | (refine VS.cond ?_; generalize hK1 : VS _ _ _ = KK1; generalize hK2 : VS _ _ _ = KK2; simp [hF]; try subst hK1; try subst hK2)
  refine VS.hold0 5 1 (by simp) ?_
  refine VS.pick [6, 5, 0] [0, 1] (by simp [hF]) ?_
  generalize hK : VS _ _ _ = KK; simp [hF]; try subst hK
  refine VS.rounds (fun n st => ∃ (x : Nat) (hx : x < S.shapes.length) (t : List ByteArray), x = n ∧ S.shapes[k].names = S.shapes[x].names ++ t.reverse ∧ t.length ≤ 12 ∧
    st = ⟨[(6, .val (.int .i64 (x : Int))), (5, .sub 1 [] 0 t.length false), (0, .ptr 0 [.d])], [dSp S, .sl true () 1 (dStrs t)], [], []⟩) ⟨k, k, hk, [], rfl, by simp, by simp, by simp [dStrs_nil]⟩ ?_
  rintro n st ⟨x, hx, t, rfl, ht, htl, rfl⟩
  repeat first
    | refine VS.seq ?_
    | refine VS.skip ?_
    | refine VS.block ?_
    | refine VS.nil ?_
    | refine blockN_normal ?_
    | refine loopN_normal ?_
    | refine VS.exit ?_
    | refine blockN_hit ?_
    | refine blockN_miss (by decide) ?_
    | refine loopN_exit ?_
    | refine ⟨⟨by omega, by omega⟩, ?_⟩
    | (refine VS.region tabOk (id := 0) [] (by kernel_rfl) ?_; generalize hK : VS _ _ _ = KK; simp [hF]; try subst hK; try (refine VS.keep [0, 1] ?_; generalize hK : VS _ _ _ = KK; simp; try subst hK))
    | (refine VS.region tabOk (id := 1) [] (by kernel_rfl) ?_; generalize hK : VS _ _ _ = KK; simp [hF]; try subst hK; try (refine VS.keep [0, 1, 5] ?_; generalize hK : VS _ _ _ = KK; simp; try subst hK))
    | (refine VS.region tabOk (id := 2) [] (by kernel_rfl) ?_; generalize hK : VS _ _ _ = KK; simp [hF]; try subst hK; try (refine VS.keep [0, 5, 6] ?_; generalize hK : VS _ _ _ = KK; simp; try subst hK))
    | (refine VS.region tabOk (id := 3) [] (by kernel_rfl) ?_; generalize hK : VS _ _ _ = KK; simp [hF]; try subst hK; try (refine VS.keep [0, 5, 6, 9] ?_; generalize hK : VS _ _ _ = KK; simp; try subst hK))
    | (refine VS.region tabOk (id := 4) [] (by kernel_rfl) ?_; generalize hK : VS _ _ _ = KK; simp [hF]; try subst hK; try (refine VS.keep [0, 5, 6] ?_; generalize hK : VS _ _ _ = KK; simp; try subst hK))
    | (refine VS.region tabOk (id := 5) [] (by kernel_rfl) ?_; generalize hK : VS _ _ _ = KK; simp [hF]; try subst hK; try (refine VS.keep [0, 5, 6] ?_; generalize hK : VS _ _ _ = KK; simp; try subst hK))
    | (refine VS.region tabOk (id := 6) [] (by kernel_rfl) ?_; generalize hK : VS _ _ _ = KK; simp [hF]; try subst hK; try (refine VS.keep [5] ?_; generalize hK : VS _ _ _ = KK; simp; try subst hK))
    | (refine VS.region tabOk (id := 7) [] (by kernel_rfl) ?_; generalize hK : VS _ _ _ = KK; simp [hF]; try subst hK; try (refine VS.keep [4] ?_; generalize hK : VS _ _ _ = KK; simp; try subst hK))
    | (refine VS.cond ?_; generalize hK1 : VS _ _ _ = KK1; generalize hK2 : VS _ _ _ = KK2; simp [hF]; try subst hK1; try subst hK2)
  refine ⟨fun hlt => ?_, fun hge => ?_⟩
  · have hn := dShs_nth hx
    have hx' : ((x : Nat) : Int) < S.shapes.length := by omega
    obtain ⟨p, hp, nm, h1, h2⟩ := hS.below x hx hlt
    have hd := hS.deep k hk
    repeat first
      | refine VS.seq ?_
      | refine VS.skip ?_
      | refine VS.block ?_
      | refine VS.nil ?_
      | refine blockN_normal ?_
      | refine loopN_normal ?_
      | refine VS.exit ?_
      | refine blockN_hit ?_
      | refine blockN_miss (by decide) ?_
      | refine loopN_exit ?_
      | refine ⟨⟨by omega, by omega⟩, ?_⟩
      | (refine VS.region tabOk (id := 0) [] (by kernel_rfl) ?_; generalize hK : VS _ _ _ = KK; simp [hF, dSp, hn, hx', dSh, dInt, dStr, hlt]; try subst hK; try (refine VS.keep [0, 1] ?_; generalize hK : VS _ _ _ = KK; simp; try subst hK))
      | (refine VS.region tabOk (id := 1) [] (by kernel_rfl) ?_; generalize hK : VS _ _ _ = KK; simp [hF, dSp, hn, hx', dSh, dInt, dStr, hlt]; try subst hK; try (refine VS.keep [0, 1, 5] ?_; generalize hK : VS _ _ _ = KK; simp; try subst hK))
      | (refine VS.region tabOk (id := 2) [] (by kernel_rfl) ?_; generalize hK : VS _ _ _ = KK; simp [hF, dSp, hn, hx', dSh, dInt, dStr, hlt]; try subst hK; try (refine VS.keep [0, 5, 6] ?_; generalize hK : VS _ _ _ = KK; simp; try subst hK))
      | (refine VS.region tabOk (id := 3) [] (by kernel_rfl) ?_; generalize hK : VS _ _ _ = KK; simp [hF, dSp, hn, hx', dSh, dInt, dStr, hlt]; try subst hK; try (refine VS.keep [0, 5, 6, 9] ?_; generalize hK : VS _ _ _ = KK; simp; try subst hK))
      | (refine VS.region tabOk (id := 4) [] (by kernel_rfl) ?_; generalize hK : VS _ _ _ = KK; simp [hF, dSp, hn, hx', dSh, dInt, dStr, hlt]; try subst hK; try (refine VS.keep [0, 5, 6] ?_; generalize hK : VS _ _ _ = KK; simp; try subst hK))
      | (refine VS.region tabOk (id := 5) [] (by kernel_rfl) ?_; generalize hK : VS _ _ _ = KK; simp [hF, dSp, hn, hx', dSh, dInt, dStr, hlt]; try subst hK; try (refine VS.keep [0, 5, 6] ?_; generalize hK : VS _ _ _ = KK; simp; try subst hK))
      | (refine VS.region tabOk (id := 6) [] (by kernel_rfl) ?_; generalize hK : VS _ _ _ = KK; simp [hF, dSp, hn, hx', dSh, dInt, dStr, hlt]; try subst hK; try (refine VS.keep [5] ?_; generalize hK : VS _ _ _ = KK; simp; try subst hK))
      | (refine VS.region tabOk (id := 7) [] (by kernel_rfl) ?_; generalize hK : VS _ _ _ = KK; simp [hF, dSp, hn, hx', dSh, dInt, dStr, hlt]; try subst hK; try (refine VS.keep [4] ?_; generalize hK : VS _ _ _ = KK; simp; try subst hK))
      | (refine VS.cond ?_; generalize hK1 : VS _ _ _ = KK1; generalize hK2 : VS _ _ _ = KK2; simp [hF, dSp, hn, hx', dSh, dInt, dStr, hlt]; try subst hK1; try subst hK2)
    refine nextK.of [6, 5, 0] [0, 1] (p) (by omega) (by simp [hF]) ?_
    refine ⟨p, by omega, t ++ [lastName S.shapes[x].names], rfl, ?_, ?_, ?_⟩
    · rw [ht, h2]; simp [lastName]
    · rw [ht, h2] at hd; simp at hd ⊢; omega
    · simp [dSp, h1]
  · obtain rfl : x = 0 := hge
    repeat first
      | refine VS.seq ?_
      | refine VS.skip ?_
      | refine VS.block ?_
      | refine VS.nil ?_
      | refine blockN_normal ?_
      | refine loopN_normal ?_
      | refine VS.exit ?_
      | refine blockN_hit ?_
      | refine blockN_miss (by decide) ?_
      | refine loopN_exit ?_
      | refine ⟨⟨by omega, by omega⟩, ?_⟩
      | (refine VS.region tabOk (id := 0) [] (by kernel_rfl) ?_; generalize hK : VS _ _ _ = KK; simp [hF]; try subst hK; try (refine VS.keep [0, 1] ?_; generalize hK : VS _ _ _ = KK; simp; try subst hK))
      | (refine VS.region tabOk (id := 1) [] (by kernel_rfl) ?_; generalize hK : VS _ _ _ = KK; simp [hF]; try subst hK; try (refine VS.keep [0, 1, 5] ?_; generalize hK : VS _ _ _ = KK; simp; try subst hK))
      | (refine VS.region tabOk (id := 2) [] (by kernel_rfl) ?_; generalize hK : VS _ _ _ = KK; simp [hF]; try subst hK; try (refine VS.keep [0, 5, 6] ?_; generalize hK : VS _ _ _ = KK; simp; try subst hK))
      | (refine VS.region tabOk (id := 3) [] (by kernel_rfl) ?_; generalize hK : VS _ _ _ = KK; simp [hF]; try subst hK; try (refine VS.keep [0, 5, 6, 9] ?_; generalize hK : VS _ _ _ = KK; simp; try subst hK))
      | (refine VS.region tabOk (id := 4) [] (by kernel_rfl) ?_; generalize hK : VS _ _ _ = KK; simp [hF]; try subst hK; try (refine VS.keep [0, 5, 6] ?_; generalize hK : VS _ _ _ = KK; simp; try subst hK))
      | (refine VS.region tabOk (id := 5) [] (by kernel_rfl) ?_; generalize hK : VS _ _ _ = KK; simp [hF]; try subst hK; try (refine VS.keep [0, 5, 6] ?_; generalize hK : VS _ _ _ = KK; simp; try subst hK))
      | (refine VS.region tabOk (id := 6) [] (by kernel_rfl) ?_; generalize hK : VS _ _ _ = KK; simp [hF]; try subst hK; try (refine VS.keep [5] ?_; generalize hK : VS _ _ _ = KK; simp; try subst hK))
      | (refine VS.region tabOk (id := 7) [] (by kernel_rfl) ?_; generalize hK : VS _ _ _ = KK; simp [hF]; try subst hK; try (refine VS.keep [4] ?_; generalize hK : VS _ _ _ = KK; simp; try subst hK))
      | (refine VS.cond ?_; generalize hK1 : VS _ _ _ = KK1; generalize hK2 : VS _ _ _ = KK2; simp [hF]; try subst hK1; try subst hK2)
    refine (reverse_ok false t (by omega)).call [(1, [])] (by simp) (by simp [hF]) (by simp [hF]) (by simp [hF]) ?_
    rintro av X κ ⟨rfl, rfl, rfl⟩
    generalize hK : VS _ _ _ = KK; simp [hF]; try subst hK
    repeat first
      | refine VS.seq ?_
      | refine VS.skip ?_
      | refine VS.block ?_
      | refine VS.nil ?_
      | refine blockN_normal ?_
      | refine loopN_normal ?_
      | refine VS.exit ?_
      | refine blockN_hit ?_
      | refine blockN_miss (by decide) ?_
      | refine loopN_exit ?_
      | refine ⟨⟨by omega, by omega⟩, ?_⟩
      | (refine VS.region tabOk (id := 0) [] (by kernel_rfl) ?_; generalize hK : VS _ _ _ = KK; simp [hF]; try subst hK; try (refine VS.keep [0, 1] ?_; generalize hK : VS _ _ _ = KK; simp; try subst hK))
      | (refine VS.region tabOk (id := 1) [] (by kernel_rfl) ?_; generalize hK : VS _ _ _ = KK; simp [hF]; try subst hK; try (refine VS.keep [0, 1, 5] ?_; generalize hK : VS _ _ _ = KK; simp; try subst hK))
      | (refine VS.region tabOk (id := 2) [] (by kernel_rfl) ?_; generalize hK : VS _ _ _ = KK; simp [hF]; try subst hK; try (refine VS.keep [0, 5, 6] ?_; generalize hK : VS _ _ _ = KK; simp; try subst hK))
      | (refine VS.region tabOk (id := 3) [] (by kernel_rfl) ?_; generalize hK : VS _ _ _ = KK; simp [hF]; try subst hK; try (refine VS.keep [0, 5, 6, 9] ?_; generalize hK : VS _ _ _ = KK; simp; try subst hK))
      | (refine VS.region tabOk (id := 4) [] (by kernel_rfl) ?_; generalize hK : VS _ _ _ = KK; simp [hF]; try subst hK; try (refine VS.keep [0, 5, 6] ?_; generalize hK : VS _ _ _ = KK; simp; try subst hK))
      | (refine VS.region tabOk (id := 5) [] (by kernel_rfl) ?_; generalize hK : VS _ _ _ = KK; simp [hF]; try subst hK; try (refine VS.keep [0, 5, 6] ?_; generalize hK : VS _ _ _ = KK; simp; try subst hK))
      | (refine VS.region tabOk (id := 6) [] (by kernel_rfl) ?_; generalize hK : VS _ _ _ = KK; simp [hF]; try subst hK; try (refine VS.keep [5] ?_; generalize hK : VS _ _ _ = KK; simp; try subst hK))
      | (refine VS.region tabOk (id := 7) [] (by kernel_rfl) ?_; generalize hK : VS _ _ _ = KK; simp [hF]; try subst hK; try (refine VS.keep [4] ?_; generalize hK : VS _ _ _ = KK; simp; try subst hK))
      | (refine VS.cond ?_; generalize hK1 : VS _ _ _ = KK1; generalize hK2 : VS _ _ _ = KK2; simp [hF]; try subst hK1; try subst hK2)
    have h0 := hS.root hx
    rw [h0] at ht
    simp only [List.nil_append] at ht
    try refine VS.ret ?_
    repeat first | refine blockN_ret ?_ | refine loopN_ret ?_
    refine endK.of [4] [0, 1] [] (by simp [hF]) (by simp [covers, mpre]) ?_
    simp [hF, retK, ht]

/-- An object as a value: its slices lie in the space. -/
def avOb (o : Ob) (j : Nat) : AV := .agg (.cons (.val (.int .i64 o.shape)) (.cons (.sub 0 [.d, .f 1, .i j, .f 1] 0 (ownOf o).length false) (.cons (.sub 0 [.d, .f 1, .i j, .f 2] 0 o.words.length false) (.cons (.val (.bool o.frozen)) .nil))))

/- (*cabochon/shape.Space).names -/
theorem names_ok (S : Sp) (hS : ShOk S.shapes) (j : Nat) (hj : j < S.objs.length) {N : Nat} (ho : ObOk S.shapes N S.objs[j]) (hN : N ≤ 1000000) : Meets Try.prog 42 [dSp S] (.cons (.ptr 0 [.d]) (.cons (avOb S.objs[j] j) .nil))
    fun av X κ => av = .sub 1 [] 0 S.objs[j].names.length false ∧ X = [dSp S, .sl true () 1 (dStrs S.objs[j].names)] ∧ κ = [] := by
  unfold avOb
  refine Meets.of_vs tabOk Try.func42 (body := ?_) ?_ (by kernel_rfl) Try.ntmps42 (rs := [.tmp 4]) (by kernel_rfl) rfl (by simp [AV.len]) (by simp only [envOf]; exact rfl) ?_
  rotate_left
  · rfl
  intro w0 I0 F0 hF
  repeat first
    | refine VS.seq ?_
    | refine VS.skip ?_
    | refine VS.block ?_
    | refine VS.nil ?_
    | refine blockN_normal ?_
    | refine loopN_normal ?_
    | refine VS.exit ?_
    | refine blockN_hit ?_
    | refine blockN_miss (by decide) ?_
    | refine loopN_exit ?_
    | refine ⟨⟨by omega, by omega⟩, ?_⟩
    | (refine VS.region tabOk (id := 0) [] (by kernel_rfl) ?_; generalize hK : VS _ _ _ = KK; simp [hF]; try subst hK; try (refine VS.keep [0, 3] ?_; generalize hK : VS _ _ _ = KK; simp; try subst hK))
    | (refine VS.region tabOk (id := 1) [] (by kernel_rfl) ?_; generalize hK : VS _ _ _ = KK; simp [hF]; try subst hK; try (refine VS.keep [0, 3, 7] ?_; generalize hK : VS _ _ _ = KK; simp; try subst hK))
    | (refine VS.region tabOk (id := 2) [] (by kernel_rfl) ?_; generalize hK : VS _ _ _ = KK; simp [hF]; try subst hK; try (refine VS.keep [4] ?_; generalize hK : VS _ _ _ = KK; simp; try subst hK))
    | (refine VS.region tabOk (id := 3) [] (by kernel_rfl) ?_; generalize hK : VS _ _ _ = KK; simp [hF]; try subst hK; try (refine VS.keep [4] ?_; generalize hK : VS _ _ _ = KK; simp; try subst hK))
    | (refine VS.cond ?_; generalize hK1 : VS _ _ _ = KK1; generalize hK2 : VS _ _ _ = KK2; simp [hF]; try subst hK1; try subst hK2)
  have hnl := ho.names_len
  refine ⟨fun hc => ?_, fun hc => ?_⟩
  · have how : ownOf S.objs[j] = S.objs[j].names := by simp [ownOf, hc]
    repeat first
      | refine VS.seq ?_
      | refine VS.skip ?_
      | refine VS.block ?_
      | refine VS.nil ?_
      | refine blockN_normal ?_
      | refine loopN_normal ?_
      | refine VS.exit ?_
      | refine blockN_hit ?_
      | refine blockN_miss (by decide) ?_
      | refine loopN_exit ?_
      | refine ⟨⟨by omega, by omega⟩, ?_⟩
      | (refine VS.region tabOk (id := 0) [] (by kernel_rfl) ?_; generalize hK : VS _ _ _ = KK; simp [hF]; try subst hK; try (refine VS.keep [0, 3] ?_; generalize hK : VS _ _ _ = KK; simp; try subst hK))
      | (refine VS.region tabOk (id := 1) [] (by kernel_rfl) ?_; generalize hK : VS _ _ _ = KK; simp [hF]; try subst hK; try (refine VS.keep [0, 3, 7] ?_; generalize hK : VS _ _ _ = KK; simp; try subst hK))
      | (refine VS.region tabOk (id := 2) [] (by kernel_rfl) ?_; generalize hK : VS _ _ _ = KK; simp [hF]; try subst hK; try (refine VS.keep [4] ?_; generalize hK : VS _ _ _ = KK; simp; try subst hK))
      | (refine VS.region tabOk (id := 3) [] (by kernel_rfl) ?_; generalize hK : VS _ _ _ = KK; simp [hF]; try subst hK; try (refine VS.keep [4] ?_; generalize hK : VS _ _ _ = KK; simp; try subst hK))
      | (refine VS.cond ?_; generalize hK1 : VS _ _ _ = KK1; generalize hK2 : VS _ _ _ = KK2; simp [hF]; try subst hK1; try subst hK2)
    refine (cloneStr_ok true false (ownOf S.objs[j]) (by rw [how]; omega)).call [(0, [.d, .f 1, .i j, .f 1])] (by simp) (by simp [hF, dSp, dObs_at hj, hj, setN_of (dObs_at hj)]) (by simp [hF, dSp, dObs_at hj, hj, setN_of (dObs_at hj)]) (by simp [hF, dSp, dObs_at hj, hj, setN_of (dObs_at hj)]) ?_
    rintro av X κ ⟨rfl, rfl, rfl⟩
    generalize hK : VS _ _ _ = KK; simp [hF, dSp, dObs_at hj, hj, setN_of (dObs_at hj)]; try subst hK
    rw [← how]
    try refine VS.ret ?_
    repeat first | refine blockN_ret ?_ | refine loopN_ret ?_
    refine endK.of [4] [0, 2] [] (by simp [hF]) (by simp [covers, mpre]) ?_
    simp [hF, retK, dSp]
  · have hsh := ho.2.2.resolve_left hc
    obtain ⟨k, hk, h1, h2⟩ := hsh
    repeat first
      | refine VS.seq ?_
      | refine VS.skip ?_
      | refine VS.block ?_
      | refine VS.nil ?_
      | refine blockN_normal ?_
      | refine loopN_normal ?_
      | refine VS.exit ?_
      | refine blockN_hit ?_
      | refine blockN_miss (by decide) ?_
      | refine loopN_exit ?_
      | refine ⟨⟨by omega, by omega⟩, ?_⟩
      | (refine VS.region tabOk (id := 0) [] (by kernel_rfl) ?_; generalize hK : VS _ _ _ = KK; simp [hF, h1]; try subst hK; try (refine VS.keep [0, 3] ?_; generalize hK : VS _ _ _ = KK; simp; try subst hK))
      | (refine VS.region tabOk (id := 1) [] (by kernel_rfl) ?_; generalize hK : VS _ _ _ = KK; simp [hF, h1]; try subst hK; try (refine VS.keep [0, 3, 7] ?_; generalize hK : VS _ _ _ = KK; simp; try subst hK))
      | (refine VS.region tabOk (id := 2) [] (by kernel_rfl) ?_; generalize hK : VS _ _ _ = KK; simp [hF, h1]; try subst hK; try (refine VS.keep [4] ?_; generalize hK : VS _ _ _ = KK; simp; try subst hK))
      | (refine VS.region tabOk (id := 3) [] (by kernel_rfl) ?_; generalize hK : VS _ _ _ = KK; simp [hF, h1]; try subst hK; try (refine VS.keep [4] ?_; generalize hK : VS _ _ _ = KK; simp; try subst hK))
      | (refine VS.cond ?_; generalize hK1 : VS _ _ _ = KK1; generalize hK2 : VS _ _ _ = KK2; simp [hF, h1]; try subst hK1; try subst hK2)
    refine (named_ok S hS k hk).call [(0, [])] (by simp) (by simp [hF, dSp]) (by simp [hF, dSp]) (by simp [hF, dSp]) ?_
    rintro av X κ ⟨rfl, rfl, rfl⟩
    generalize hK : VS _ _ _ = KK; simp [hF, dSp]; try subst hK
    try refine VS.ret ?_
    repeat first | refine blockN_ret ?_ | refine loopN_ret ?_
    refine endK.of [4] [0, 2] [] (by simp [hF]) (by simp [covers, mpre]) ?_
    simp [hF, retK, dSp, h2]

/-- Two shapes are asked to be the same. -/
theorem eqSh {op : BinOp} {a b : Int} {s u : ByteArray} {K : AV → Prop} (h : eqVc op (decide (a = b) && decide (s = u)) K) :
    EqK Try.prog 70 op (.cons (.val (.int .i64 a)) (.cons (.val (.string s)) .nil)) (.cons (.val (.int .i64 b)) (.cons (.val (.string u)) .nil)) K := by
  refine ⟨_, ⟨Try.eqGuardType70, fun h I F xs ys w h1 h2 => ?_⟩, h⟩
  obtain ⟨_, _, rfl, ⟨rfl, _⟩, _, _, rfl, ⟨rfl, _⟩, rfl⟩ := h1
  obtain ⟨_, _, rfl, ⟨rfl, _⟩, _, _, rfl, ⟨rfl, _⟩, rfl⟩ := h2
  have key : ∀ d, (Op.equalIn (d + 2) 70 (.agg #[.int .i64 a, .string s]) (.agg #[.int .i64 b, .string u])).run Try.prog w = .ok (decide (a = b) && decide (s = u)) w := fun d => by
    simp [Op.equalIn, run_underlying Try.underlying70, run_underlying Try.underlying3, run_underlying Try.underlying9, Try.stoodInHeld70, part]
    by_cases h1 : a = b <;> by_cases h2 : s = u <;> simp [h1, h2, beqBytes]
  exact key 9998

/- (*cabochon/shape.Space).below -/
theorem below_ok (S : Sp) (hS : ShOk S.shapes) (p : Int) (n0 : ByteArray) : Meets Try.prog 66 [dSp S] (.cons (.ptr 0 [.d]) (.cons (.val (.int .i64 p)) (.cons (.val (.string n0)) .nil)))
    fun av X κ => av = .val (.int .i64 (belowOf S.shapes p n0)) ∧ X = [dSp S] ∧ κ = [] := by
  refine Meets.of_vs tabOk Try.func66 (body := ?_) ?_ (by kernel_rfl) Try.ntmps66 (rs := [.tmp 6]) (by kernel_rfl) rfl (by simp [AV.len]) (by simp only [envOf]; exact rfl) ?_
  rotate_left
  · rfl
  intro w0 I0 F0 hF
  repeat first
    | refine VS.seq ?_
    | refine VS.skip ?_
    | refine VS.block ?_
    | refine VS.nil ?_
    | refine blockN_normal ?_
    | refine loopN_normal ?_
    | refine VS.exit ?_
    | refine blockN_hit ?_
    | refine blockN_miss (by decide) ?_
    | refine loopN_exit ?_
    | refine ⟨⟨by omega, by omega⟩, ?_⟩
    | (refine VS.region tabOk (id := 0) [] (by kernel_rfl) ?_; generalize hK : VS _ _ _ = KK; simp [hF, dSp]; try subst hK; try (refine VS.keep [0, 1, 2] ?_; generalize hK : VS _ _ _ = KK; simp; try subst hK))
    | (refine VS.region tabOk (id := 1) [] (by kernel_rfl) ?_; generalize hK : VS _ _ _ = KK; simp [hF, dSp]; try subst hK; try (refine VS.keep [0, 1, 2, 12, 13] ?_; generalize hK : VS _ _ _ = KK; simp; try subst hK))
    | (refine VS.region tabOk (id := 2) [] (by kernel_rfl) ?_; generalize hK : VS _ _ _ = KK; simp [hF, dSp]; try subst hK; try (refine VS.keep [0, 1, 2, 12, 13, 14] ?_; generalize hK : VS _ _ _ = KK; simp; try subst hK))
    | (refine VS.region tabOk (id := 3) [] (by kernel_rfl) ?_; generalize hK : VS _ _ _ = KK; simp [hF, dSp]; try subst hK; try (refine VS.keep [0, 1, 2, 7, 12, 13] ?_; generalize hK : VS _ _ _ = KK; simp; try subst hK))
    | (refine VS.region tabOk (id := 4) [] (by kernel_rfl) ?_; generalize hK : VS _ _ _ = KK; simp [hF, dSp]; try subst hK; try (refine VS.keep [0, 1, 2, 7, 12, 13, 26] ?_; generalize hK : VS _ _ _ = KK; simp; try subst hK))
    | (refine VS.region tabOk (id := 5) [] (by kernel_rfl) ?_; generalize hK : VS _ _ _ = KK; simp [hF, dSp]; try subst hK; try (refine VS.keep [6] ?_; generalize hK : VS _ _ _ = KK; simp; try subst hK))
    | (refine VS.region tabOk (id := 6) [] (by kernel_rfl) ?_; generalize hK : VS _ _ _ = KK; simp [hF, dSp]; try subst hK; try (refine VS.keep [0, 1, 2, 12, 13] ?_; generalize hK : VS _ _ _ = KK; simp; try subst hK))
    | (refine VS.region tabOk (id := 7) [] (by kernel_rfl) ?_; generalize hK : VS _ _ _ = KK; simp [hF, dSp]; try subst hK; try (refine VS.keep [6] ?_; generalize hK : VS _ _ _ = KK; simp; try subst hK))
    | (refine VS.cond ?_; generalize hK1 : VS _ _ _ = KK1; generalize hK2 : VS _ _ _ = KK2; simp [hF, dSp]; try subst hK1; try subst hK2)
  have hns := hS.ns
  refine VS.pick [13, 12, 0, 1, 2] [0] (by simp [hF]) ?_
  generalize hK : VS _ _ _ = KK; simp [hF]; try subst hK
  refine VS.rounds (fun n st => ∃ (i : Nat), i + n = S.shapes.length ∧ (∀ j, j < i → ∀ hj : j < S.shapes.length, (decide (S.shapes[j].parent = p) && decide (lastName S.shapes[j].names = n0)) = false) ∧
    st = ⟨[(13, .val (.int .i64 (i : Int))), (12, .val (.int .i64 (S.shapes.length : Int))), (0, .ptr 0 [.d]), (1, .val (.int .i64 p)), (2, .val (.string n0))], [dSp S], [], []⟩) ⟨S.shapes.length, 0, by simp, by simp, by simp [dSp]⟩ ?_
  rintro n st ⟨i, hi, hall, rfl⟩
  repeat first
    | refine VS.seq ?_
    | refine VS.skip ?_
    | refine VS.block ?_
    | refine VS.nil ?_
    | refine blockN_normal ?_
    | refine loopN_normal ?_
    | refine VS.exit ?_
    | refine blockN_hit ?_
    | refine blockN_miss (by decide) ?_
    | refine loopN_exit ?_
    | refine ⟨⟨by omega, by omega⟩, ?_⟩
    | (refine VS.region tabOk (id := 0) [] (by kernel_rfl) ?_; generalize hK : VS _ _ _ = KK; simp [hF]; try subst hK; try (refine VS.keep [0, 1, 2] ?_; generalize hK : VS _ _ _ = KK; simp; try subst hK))
    | (refine VS.region tabOk (id := 1) [] (by kernel_rfl) ?_; generalize hK : VS _ _ _ = KK; simp [hF]; try subst hK; try (refine VS.keep [0, 1, 2, 12, 13] ?_; generalize hK : VS _ _ _ = KK; simp; try subst hK))
    | (refine VS.region tabOk (id := 2) [] (by kernel_rfl) ?_; generalize hK : VS _ _ _ = KK; simp [hF]; try subst hK; try (refine VS.keep [0, 1, 2, 12, 13, 14] ?_; generalize hK : VS _ _ _ = KK; simp; try subst hK))
    | (refine VS.region tabOk (id := 3) [] (by kernel_rfl) ?_; generalize hK : VS _ _ _ = KK; simp [hF]; try subst hK; try (refine VS.keep [0, 1, 2, 7, 12, 13] ?_; generalize hK : VS _ _ _ = KK; simp; try subst hK))
    | (refine VS.region tabOk (id := 4) [] (by kernel_rfl) ?_; generalize hK : VS _ _ _ = KK; simp [hF]; try subst hK; try (refine VS.keep [0, 1, 2, 7, 12, 13, 26] ?_; generalize hK : VS _ _ _ = KK; simp; try subst hK))
    | (refine VS.region tabOk (id := 5) [] (by kernel_rfl) ?_; generalize hK : VS _ _ _ = KK; simp [hF]; try subst hK; try (refine VS.keep [6] ?_; generalize hK : VS _ _ _ = KK; simp; try subst hK))
    | (refine VS.region tabOk (id := 6) [] (by kernel_rfl) ?_; generalize hK : VS _ _ _ = KK; simp [hF]; try subst hK; try (refine VS.keep [0, 1, 2, 12, 13] ?_; generalize hK : VS _ _ _ = KK; simp; try subst hK))
    | (refine VS.region tabOk (id := 7) [] (by kernel_rfl) ?_; generalize hK : VS _ _ _ = KK; simp [hF]; try subst hK; try (refine VS.keep [6] ?_; generalize hK : VS _ _ _ = KK; simp; try subst hK))
    | (refine VS.cond ?_; generalize hK1 : VS _ _ _ = KK1; generalize hK2 : VS _ _ _ = KK2; simp [hF]; try subst hK1; try subst hK2)
  refine ⟨fun hlt => ?_, fun hge => ?_⟩
  · have hn := dShs_nth hlt
    repeat first
      | refine VS.seq ?_
      | refine VS.skip ?_
      | refine VS.block ?_
      | refine VS.nil ?_
      | refine blockN_normal ?_
      | refine loopN_normal ?_
      | refine VS.exit ?_
      | refine blockN_hit ?_
      | refine blockN_miss (by decide) ?_
      | refine loopN_exit ?_
      | refine ⟨⟨by omega, by omega⟩, ?_⟩
      | (refine VS.region tabOk (id := 0) [] (by kernel_rfl) ?_; generalize hK : VS _ _ _ = KK; simp [hF, dSp, hlt, hn, dSh, dInt, dStr]; try subst hK; try (refine VS.keep [0, 1, 2] ?_; generalize hK : VS _ _ _ = KK; simp; try subst hK))
      | (refine VS.region tabOk (id := 1) [] (by kernel_rfl) ?_; generalize hK : VS _ _ _ = KK; simp [hF, dSp, hlt, hn, dSh, dInt, dStr]; try subst hK; try (refine VS.keep [0, 1, 2, 12, 13] ?_; generalize hK : VS _ _ _ = KK; simp; try subst hK))
      | (refine VS.region tabOk (id := 2) [] (by kernel_rfl) ?_; generalize hK : VS _ _ _ = KK; simp [hF, dSp, hlt, hn, dSh, dInt, dStr]; try subst hK; try (refine VS.keep [0, 1, 2, 12, 13, 14] ?_; generalize hK : VS _ _ _ = KK; simp; try subst hK))
      | (refine VS.region tabOk (id := 3) [] (by kernel_rfl) ?_; generalize hK : VS _ _ _ = KK; simp [hF, dSp, hlt, hn, dSh, dInt, dStr]; try subst hK; try (refine VS.keep [0, 1, 2, 7, 12, 13] ?_; generalize hK : VS _ _ _ = KK; simp; try subst hK))
      | (refine VS.region tabOk (id := 4) [] (by kernel_rfl) ?_; generalize hK : VS _ _ _ = KK; simp [hF, dSp, hlt, hn, dSh, dInt, dStr]; try subst hK; try (refine VS.keep [0, 1, 2, 7, 12, 13, 26] ?_; generalize hK : VS _ _ _ = KK; simp; try subst hK))
      | (refine VS.region tabOk (id := 5) [] (by kernel_rfl) ?_; generalize hK : VS _ _ _ = KK; simp [hF, dSp, hlt, hn, dSh, dInt, dStr]; try subst hK; try (refine VS.keep [6] ?_; generalize hK : VS _ _ _ = KK; simp; try subst hK))
      | (refine VS.region tabOk (id := 6) [] (by kernel_rfl) ?_; generalize hK : VS _ _ _ = KK; simp [hF, dSp, hlt, hn, dSh, dInt, dStr]; try subst hK; try (refine VS.keep [0, 1, 2, 12, 13] ?_; generalize hK : VS _ _ _ = KK; simp; try subst hK))
      | (refine VS.region tabOk (id := 7) [] (by kernel_rfl) ?_; generalize hK : VS _ _ _ = KK; simp [hF, dSp, hlt, hn, dSh, dInt, dStr]; try subst hK; try (refine VS.keep [6] ?_; generalize hK : VS _ _ _ = KK; simp; try subst hK))
      | (refine VS.cond ?_; generalize hK1 : VS _ _ _ = KK1; generalize hK2 : VS _ _ _ = KK2; simp [hF, dSp, hlt, hn, dSh, dInt, dStr]; try subst hK1; try subst hK2)
    refine eqSh ?_
    generalize hK : VS _ _ _ = KK; simp [hF]; try subst hK
    repeat first
      | refine VS.seq ?_
      | refine VS.skip ?_
      | refine VS.block ?_
      | refine VS.nil ?_
      | refine blockN_normal ?_
      | refine loopN_normal ?_
      | refine VS.exit ?_
      | refine blockN_hit ?_
      | refine blockN_miss (by decide) ?_
      | refine loopN_exit ?_
      | refine ⟨⟨by omega, by omega⟩, ?_⟩
      | (refine VS.region tabOk (id := 0) [] (by kernel_rfl) ?_; generalize hK : VS _ _ _ = KK; simp [hF]; try subst hK; try (refine VS.keep [0, 1, 2] ?_; generalize hK : VS _ _ _ = KK; simp; try subst hK))
      | (refine VS.region tabOk (id := 1) [] (by kernel_rfl) ?_; generalize hK : VS _ _ _ = KK; simp [hF]; try subst hK; try (refine VS.keep [0, 1, 2, 12, 13] ?_; generalize hK : VS _ _ _ = KK; simp; try subst hK))
      | (refine VS.region tabOk (id := 2) [] (by kernel_rfl) ?_; generalize hK : VS _ _ _ = KK; simp [hF]; try subst hK; try (refine VS.keep [0, 1, 2, 12, 13, 14] ?_; generalize hK : VS _ _ _ = KK; simp; try subst hK))
      | (refine VS.region tabOk (id := 3) [] (by kernel_rfl) ?_; generalize hK : VS _ _ _ = KK; simp [hF]; try subst hK; try (refine VS.keep [0, 1, 2, 7, 12, 13] ?_; generalize hK : VS _ _ _ = KK; simp; try subst hK))
      | (refine VS.region tabOk (id := 4) [] (by kernel_rfl) ?_; generalize hK : VS _ _ _ = KK; simp [hF]; try subst hK; try (refine VS.keep [0, 1, 2, 7, 12, 13, 26] ?_; generalize hK : VS _ _ _ = KK; simp; try subst hK))
      | (refine VS.region tabOk (id := 5) [] (by kernel_rfl) ?_; generalize hK : VS _ _ _ = KK; simp [hF]; try subst hK; try (refine VS.keep [6] ?_; generalize hK : VS _ _ _ = KK; simp; try subst hK))
      | (refine VS.region tabOk (id := 6) [] (by kernel_rfl) ?_; generalize hK : VS _ _ _ = KK; simp [hF]; try subst hK; try (refine VS.keep [0, 1, 2, 12, 13] ?_; generalize hK : VS _ _ _ = KK; simp; try subst hK))
      | (refine VS.region tabOk (id := 7) [] (by kernel_rfl) ?_; generalize hK : VS _ _ _ = KK; simp [hF]; try subst hK; try (refine VS.keep [6] ?_; generalize hK : VS _ _ _ = KK; simp; try subst hK))
      | (refine VS.cond ?_; generalize hK1 : VS _ _ _ = KK1; generalize hK2 : VS _ _ _ = KK2; simp [hF]; try subst hK1; try subst hK2)
    refine ⟨fun h1 h2 => ?_, fun h => ?_⟩
    · repeat first
        | refine VS.seq ?_
        | refine VS.skip ?_
        | refine VS.block ?_
        | refine VS.nil ?_
        | refine blockN_normal ?_
        | refine loopN_normal ?_
        | refine VS.exit ?_
        | refine blockN_hit ?_
        | refine blockN_miss (by decide) ?_
        | refine loopN_exit ?_
        | refine ⟨⟨by omega, by omega⟩, ?_⟩
        | (refine VS.region tabOk (id := 0) [] (by kernel_rfl) ?_; generalize hK : VS _ _ _ = KK; simp [hF]; try subst hK; try (refine VS.keep [0, 1, 2] ?_; generalize hK : VS _ _ _ = KK; simp; try subst hK))
        | (refine VS.region tabOk (id := 1) [] (by kernel_rfl) ?_; generalize hK : VS _ _ _ = KK; simp [hF]; try subst hK; try (refine VS.keep [0, 1, 2, 12, 13] ?_; generalize hK : VS _ _ _ = KK; simp; try subst hK))
        | (refine VS.region tabOk (id := 2) [] (by kernel_rfl) ?_; generalize hK : VS _ _ _ = KK; simp [hF]; try subst hK; try (refine VS.keep [0, 1, 2, 12, 13, 14] ?_; generalize hK : VS _ _ _ = KK; simp; try subst hK))
        | (refine VS.region tabOk (id := 3) [] (by kernel_rfl) ?_; generalize hK : VS _ _ _ = KK; simp [hF]; try subst hK; try (refine VS.keep [0, 1, 2, 7, 12, 13] ?_; generalize hK : VS _ _ _ = KK; simp; try subst hK))
        | (refine VS.region tabOk (id := 4) [] (by kernel_rfl) ?_; generalize hK : VS _ _ _ = KK; simp [hF]; try subst hK; try (refine VS.keep [0, 1, 2, 7, 12, 13, 26] ?_; generalize hK : VS _ _ _ = KK; simp; try subst hK))
        | (refine VS.region tabOk (id := 5) [] (by kernel_rfl) ?_; generalize hK : VS _ _ _ = KK; simp [hF]; try subst hK; try (refine VS.keep [6] ?_; generalize hK : VS _ _ _ = KK; simp; try subst hK))
        | (refine VS.region tabOk (id := 6) [] (by kernel_rfl) ?_; generalize hK : VS _ _ _ = KK; simp [hF]; try subst hK; try (refine VS.keep [0, 1, 2, 12, 13] ?_; generalize hK : VS _ _ _ = KK; simp; try subst hK))
        | (refine VS.region tabOk (id := 7) [] (by kernel_rfl) ?_; generalize hK : VS _ _ _ = KK; simp [hF]; try subst hK; try (refine VS.keep [6] ?_; generalize hK : VS _ _ _ = KK; simp; try subst hK))
        | (refine VS.cond ?_; generalize hK1 : VS _ _ _ = KK1; generalize hK2 : VS _ _ _ = KK2; simp [hF]; try subst hK1; try subst hK2)
      try refine VS.ret ?_
      repeat first | refine blockN_ret ?_ | refine loopN_ret ?_
      refine endK.of [6] [0] [] (by simp [hF]) (by simp [covers, mpre]) ?_
      simp [hF, retK, dSp]
      exact (posBy_at hlt (by simp [h1, h2]) hall).symm
    · repeat first
        | refine VS.seq ?_
        | refine VS.skip ?_
        | refine VS.block ?_
        | refine VS.nil ?_
        | refine blockN_normal ?_
        | refine loopN_normal ?_
        | refine VS.exit ?_
        | refine blockN_hit ?_
        | refine blockN_miss (by decide) ?_
        | refine loopN_exit ?_
        | refine ⟨⟨by omega, by omega⟩, ?_⟩
        | (refine VS.region tabOk (id := 0) [] (by kernel_rfl) ?_; generalize hK : VS _ _ _ = KK; simp [hF]; try subst hK; try (refine VS.keep [0, 1, 2] ?_; generalize hK : VS _ _ _ = KK; simp; try subst hK))
        | (refine VS.region tabOk (id := 1) [] (by kernel_rfl) ?_; generalize hK : VS _ _ _ = KK; simp [hF]; try subst hK; try (refine VS.keep [0, 1, 2, 12, 13] ?_; generalize hK : VS _ _ _ = KK; simp; try subst hK))
        | (refine VS.region tabOk (id := 2) [] (by kernel_rfl) ?_; generalize hK : VS _ _ _ = KK; simp [hF]; try subst hK; try (refine VS.keep [0, 1, 2, 12, 13, 14] ?_; generalize hK : VS _ _ _ = KK; simp; try subst hK))
        | (refine VS.region tabOk (id := 3) [] (by kernel_rfl) ?_; generalize hK : VS _ _ _ = KK; simp [hF]; try subst hK; try (refine VS.keep [0, 1, 2, 7, 12, 13] ?_; generalize hK : VS _ _ _ = KK; simp; try subst hK))
        | (refine VS.region tabOk (id := 4) [] (by kernel_rfl) ?_; generalize hK : VS _ _ _ = KK; simp [hF]; try subst hK; try (refine VS.keep [0, 1, 2, 7, 12, 13, 26] ?_; generalize hK : VS _ _ _ = KK; simp; try subst hK))
        | (refine VS.region tabOk (id := 5) [] (by kernel_rfl) ?_; generalize hK : VS _ _ _ = KK; simp [hF]; try subst hK; try (refine VS.keep [6] ?_; generalize hK : VS _ _ _ = KK; simp; try subst hK))
        | (refine VS.region tabOk (id := 6) [] (by kernel_rfl) ?_; generalize hK : VS _ _ _ = KK; simp [hF]; try subst hK; try (refine VS.keep [0, 1, 2, 12, 13] ?_; generalize hK : VS _ _ _ = KK; simp; try subst hK))
        | (refine VS.region tabOk (id := 7) [] (by kernel_rfl) ?_; generalize hK : VS _ _ _ = KK; simp [hF]; try subst hK; try (refine VS.keep [6] ?_; generalize hK : VS _ _ _ = KK; simp; try subst hK))
        | (refine VS.cond ?_; generalize hK1 : VS _ _ _ = KK1; generalize hK2 : VS _ _ _ = KK2; simp [hF]; try subst hK1; try subst hK2)
      refine nextK.of [13, 12, 0, 1, 2] [0] (n - 1) (by omega) (by simp [hF]) ?_
      refine ⟨i + 1, by omega, ?_, ?_⟩
      · intro j hj hj'
        rcases Nat.lt_or_ge j i with h' | h'
        · exact hall j h' hj'
        · obtain rfl : j = i := by omega
          simpa using h
      · simp [dSp]
        exact IntWalk.i64_in _ (by omega)
  · repeat first
      | refine VS.seq ?_
      | refine VS.skip ?_
      | refine VS.block ?_
      | refine VS.nil ?_
      | refine blockN_normal ?_
      | refine loopN_normal ?_
      | refine VS.exit ?_
      | refine blockN_hit ?_
      | refine blockN_miss (by decide) ?_
      | refine loopN_exit ?_
      | refine ⟨⟨by omega, by omega⟩, ?_⟩
      | (refine VS.region tabOk (id := 0) [] (by kernel_rfl) ?_; generalize hK : VS _ _ _ = KK; simp [hF]; try subst hK; try (refine VS.keep [0, 1, 2] ?_; generalize hK : VS _ _ _ = KK; simp; try subst hK))
      | (refine VS.region tabOk (id := 1) [] (by kernel_rfl) ?_; generalize hK : VS _ _ _ = KK; simp [hF]; try subst hK; try (refine VS.keep [0, 1, 2, 12, 13] ?_; generalize hK : VS _ _ _ = KK; simp; try subst hK))
      | (refine VS.region tabOk (id := 2) [] (by kernel_rfl) ?_; generalize hK : VS _ _ _ = KK; simp [hF]; try subst hK; try (refine VS.keep [0, 1, 2, 12, 13, 14] ?_; generalize hK : VS _ _ _ = KK; simp; try subst hK))
      | (refine VS.region tabOk (id := 3) [] (by kernel_rfl) ?_; generalize hK : VS _ _ _ = KK; simp [hF]; try subst hK; try (refine VS.keep [0, 1, 2, 7, 12, 13] ?_; generalize hK : VS _ _ _ = KK; simp; try subst hK))
      | (refine VS.region tabOk (id := 4) [] (by kernel_rfl) ?_; generalize hK : VS _ _ _ = KK; simp [hF]; try subst hK; try (refine VS.keep [0, 1, 2, 7, 12, 13, 26] ?_; generalize hK : VS _ _ _ = KK; simp; try subst hK))
      | (refine VS.region tabOk (id := 5) [] (by kernel_rfl) ?_; generalize hK : VS _ _ _ = KK; simp [hF]; try subst hK; try (refine VS.keep [6] ?_; generalize hK : VS _ _ _ = KK; simp; try subst hK))
      | (refine VS.region tabOk (id := 6) [] (by kernel_rfl) ?_; generalize hK : VS _ _ _ = KK; simp [hF]; try subst hK; try (refine VS.keep [0, 1, 2, 12, 13] ?_; generalize hK : VS _ _ _ = KK; simp; try subst hK))
      | (refine VS.region tabOk (id := 7) [] (by kernel_rfl) ?_; generalize hK : VS _ _ _ = KK; simp [hF]; try subst hK; try (refine VS.keep [6] ?_; generalize hK : VS _ _ _ = KK; simp; try subst hK))
      | (refine VS.cond ?_; generalize hK1 : VS _ _ _ = KK1; generalize hK2 : VS _ _ _ = KK2; simp [hF]; try subst hK1; try subst hK2)
    try refine VS.ret ?_
    repeat first | refine blockN_ret ?_ | refine loopN_ret ?_
    refine endK.of [6] [0] [] (by simp [hF]) (by simp [covers, mpre]) ?_
    simp [hF, retK]
    exact (posBy_none fun j hj => hall j (by omega) hj).symm
end Go.Proofs.Ythcndkpkkaphoaa
