/- A copy of a space. -/
import Derived.Test.YthcndkpkkaphoaaK4
import Derived.Test.YthcndkpkkaphoaaK5
import Derived.Test.YthcndkpkkaphoaaK3
import Derived.ChangeArms
import Derived.ChangeSlices
import Derived.Carry
namespace Go.Proofs.Ythcndkpkkaphoaa
set_option linter.all false
open Go.Vc Go.Proofs
set_option linter.unusedSimpArgs false
set_option maxRecDepth 100000
set_option maxHeartbeats 4000000
attribute [local irreducible] CallW EqK

/- A space that cannot change. -/
def dObI (o : Ob) : D := .agg (.cons (dInt o.shape) (.cons (.sl false () 1 (dStrs (ownOf o))) (.cons (.sl false () 1 (dInts o.words)) (.cons (dBool o.frozen) .nil))))
def dObsI (l : List Ob) : D := sq (l.map dObI)
def dSpI (S : Sp) : D := .agg (.cons (.sl false () 2 (dShs S.shapes)) (.cons (.sl false () 4 (dObsI S.objs)) .nil))
theorem freeze_sq (l : List D) : (sq l).freeze = sq (l.map T.freeze) := by
  induction l with
  | nil => rfl
  | cons a l ih => simp [sq, T.freeze, ih]
theorem freeze_strs (l : List ByteArray) : (dStrs l).freeze = dStrs l := by
  rw [dStrs, freeze_sq, List.map_map]; rfl
theorem freeze_ints (l : List Int) : (dInts l).freeze = dInts l := by
  rw [dInts, freeze_sq, List.map_map]; rfl
theorem freeze_shs (l : List Sh) : (dShs l).freeze = dShs l := by
  rw [dShs, freeze_sq, List.map_map]; rfl
theorem freeze_ob (o : Ob) : (dOb o).freeze = dObI o := by
  simp only [dOb, dObI, T.freeze, freeze_strs, freeze_ints]; rfl
theorem freeze_obs (l : List Ob) : (dObs l).freeze = dObsI l := by
  rw [dObs, freeze_sq, dObsI, List.map_map]
  congr 1
  exact List.map_congr_left fun o _ => freeze_ob o
theorem freeze_sp (S : Sp) : ∃ d, dSp S = .box true () d ∧ d.freeze = dSpI S := ⟨_, rfl, by simp only [T.freeze, dSpI, freeze_shs, freeze_obs]⟩
@[simp] theorem dObsI_len (l : List Ob) : (dObsI l).len = l.length := by simp [dObsI]
@[simp] theorem dObsI_free (l : List Ob) : (dObsI l).free = true := by
  rw [← freeze_obs]; exact T.freeze_free _
@[simp] theorem dObsI_mid (l : List Ob) : (dObsI l).mid 0 l.length = dObsI l := sq_mid_all _ _ (by simp)

/- slices.Clone[[]cabochon/shape.shape,cabochon/shape.shape] -/
theorem cloneSh_ok (ex : Bool) (l : List Sh) (hl : l.length ≤ 1000000) : Meets Try.prog 53 [] (.cons (.imm 2 (dShs l) ex) .nil)
    fun av X κ => av = .sub 0 [] 0 l.length false ∧ X = [.sl true () 2 (dShs l)] ∧ κ = [] := by
  refine Meets.of_vs tabOk Try.func53 (body := ?_) ?_ (by kernel_rfl) Try.ntmps53 (rs := [.tmp 2]) (by kernel_rfl) rfl (by simp [AV.len]) (by simp only [envOf]; exact rfl) ?_
  rotate_left
  · rfl
  intro w0 I0 F0 hF
  repeat first
    | refine VS.seq ?_
    | (refine VS.keepAt 0 [0] ?_; generalize hK : VS _ _ _ = KK; (try simp); (try subst hK); refine VS.region tabOk (id := 0) [] (by kernel_rfl) ?_; generalize hK : VS _ _ _ = KK; simp (maxSteps := 1000000) [hF]; (try subst hK); try (refine VS.keep [0] ?_; generalize hK : VS _ _ _ = KK; simp; (try subst hK)))
    | (refine VS.keepAt 1 [0] ?_; generalize hK : VS _ _ _ = KK; (try simp); (try subst hK); refine VS.region tabOk (id := 1) [] (by kernel_rfl) ?_; generalize hK : VS _ _ _ = KK; simp (maxSteps := 1000000) [hF]; (try subst hK); try (refine VS.keep [0, 4] ?_; generalize hK : VS _ _ _ = KK; simp; (try subst hK)))
  refine ⟨?_, fun h0 => ?_⟩
  · repeat first
      | refine VS.seq ?_
      | refine VS.skip ?_
      | refine ⟨⟨by omega, by omega⟩, ?_⟩
      | (refine VS.keepAt 3 [0] ?_; generalize hK : VS _ _ _ = KK; (try simp); (try subst hK); refine VS.region tabOk (id := 3) [] (by kernel_rfl) ?_; generalize hK : VS _ _ _ = KK; simp (maxSteps := 1000000) [hF]; (try subst hK); try (refine VS.keep [2] ?_; generalize hK : VS _ _ _ = KK; simp; (try subst hK)))
      | (refine VS.cond ?_; generalize hK1 : VS _ _ _ = KK1; generalize hK2 : VS _ _ _ = KK2; simp (maxSteps := 1000000) [hF]; (try subst hK1); (try subst hK2))
    try refine VS.ret ?_
    repeat first | refine blockN_ret ?_ | refine loopN_ret ?_
    refine endK.of [2] [0] [] (by simp [hF]) (by simp [covers, mpre]) ?_
    simp [hF, retK]
  · repeat first
      | refine VS.seq ?_
      | (refine VS.keepAt 2 [] ?_; generalize hK : VS _ _ _ = KK; (try simp); (try subst hK); refine VS.region tabOk (id := 2) [] (by kernel_rfl) ?_; generalize hK : VS _ _ _ = KK; simp (maxSteps := 1000000) [hF]; (try subst hK); try (refine VS.keep [2] ?_; generalize hK : VS _ _ _ = KK; simp; (try subst hK)))
      | (refine VS.cond ?_; generalize hK1 : VS _ _ _ = KK1; generalize hK2 : VS _ _ _ = KK2; simp (maxSteps := 1000000) [hF]; (try subst hK1); (try subst hK2))
    refine VS.hold0 2 2 (by simp) ?_
    subst h0
    try refine VS.ret ?_
    repeat first | refine blockN_ret ?_ | refine loopN_ret ?_
    refine endK.of [2] [0] [] (by simp [hF]) (by simp [covers, mpre]) ?_
    simp [hF, retK, dShs, sq_nil]

/- slices.Clone[[]cabochon/shape.object,cabochon/shape.object] -/
theorem cloneOb_ok (ex : Bool) (l : List Ob) (hl : l.length ≤ 1000000) : Meets Try.prog 54 [] (.cons (.imm 4 (dObsI l) ex) .nil)
    fun av X κ => av = .sub 0 [] 0 l.length false ∧ X = [.sl true () 4 (dObsI l)] ∧ κ = [] := by
  refine Meets.of_vs tabOk Try.func54 (body := ?_) ?_ (by kernel_rfl) Try.ntmps54 (rs := [.tmp 2]) (by kernel_rfl) rfl (by simp [AV.len]) (by simp only [envOf]; exact rfl) ?_
  rotate_left
  · rfl
  intro w0 I0 F0 hF
  repeat first
    | refine VS.seq ?_
    | (refine VS.keepAt 0 [0] ?_; generalize hK : VS _ _ _ = KK; (try simp); (try subst hK); refine VS.region tabOk (id := 0) [] (by kernel_rfl) ?_; generalize hK : VS _ _ _ = KK; simp (maxSteps := 1000000) [hF]; (try subst hK); try (refine VS.keep [0] ?_; generalize hK : VS _ _ _ = KK; simp; (try subst hK)))
    | (refine VS.keepAt 1 [0] ?_; generalize hK : VS _ _ _ = KK; (try simp); (try subst hK); refine VS.region tabOk (id := 1) [] (by kernel_rfl) ?_; generalize hK : VS _ _ _ = KK; simp (maxSteps := 1000000) [hF]; (try subst hK); try (refine VS.keep [0, 4] ?_; generalize hK : VS _ _ _ = KK; simp; (try subst hK)))
  refine ⟨?_, fun h0 => ?_⟩
  · repeat first
      | refine VS.seq ?_
      | refine VS.skip ?_
      | refine ⟨⟨by omega, by omega⟩, ?_⟩
      | (refine VS.keepAt 3 [0] ?_; generalize hK : VS _ _ _ = KK; (try simp); (try subst hK); refine VS.region tabOk (id := 3) [] (by kernel_rfl) ?_; generalize hK : VS _ _ _ = KK; simp (maxSteps := 1000000) [hF]; (try subst hK); try (refine VS.keep [2] ?_; generalize hK : VS _ _ _ = KK; simp; (try subst hK)))
      | (refine VS.cond ?_; generalize hK1 : VS _ _ _ = KK1; generalize hK2 : VS _ _ _ = KK2; simp (maxSteps := 1000000) [hF]; (try subst hK1); (try subst hK2))
    try refine VS.ret ?_
    repeat first | refine blockN_ret ?_ | refine loopN_ret ?_
    refine endK.of [2] [0] [] (by simp [hF]) (by simp [covers, mpre]) ?_
    simp [hF, retK]
  · repeat first
      | refine VS.seq ?_
      | (refine VS.keepAt 2 [] ?_; generalize hK : VS _ _ _ = KK; (try simp); (try subst hK); refine VS.region tabOk (id := 2) [] (by kernel_rfl) ?_; generalize hK : VS _ _ _ = KK; simp (maxSteps := 1000000) [hF]; (try subst hK); try (refine VS.keep [2] ?_; generalize hK : VS _ _ _ = KK; simp; (try subst hK)))
      | (refine VS.cond ?_; generalize hK1 : VS _ _ _ = KK1; generalize hK2 : VS _ _ _ = KK2; simp (maxSteps := 1000000) [hF]; (try subst hK1); (try subst hK2))
    refine VS.hold0 2 4 (by simp) ?_
    subst h0
    try refine VS.ret ?_
    repeat first | refine blockN_ret ?_ | refine loopN_ret ?_
    refine endK.of [2] [0] [] (by simp [hF]) (by simp [covers, mpre]) ?_
    simp [hF, retK, dObsI, sq_nil]

/- slices.Clone[[]string,string] -/
theorem cloneStrI_ok (ex : Bool) (l : List ByteArray) (hl : l.length ≤ 1000000) : Meets Try.prog 51 [] (.cons (.imm 1 (dStrs l) ex) .nil)
    fun av X κ => av = .sub 0 [] 0 l.length false ∧ X = [.sl true () 1 (dStrs l)] ∧ κ = [] := by
  refine Meets.of_vs tabOk Try.func51 (body := ?_) ?_ (by kernel_rfl) Try.ntmps51 (rs := [.tmp 2]) (by kernel_rfl) rfl (by simp [AV.len]) (by simp only [envOf]; exact rfl) ?_
  rotate_left
  · rfl
  intro w0 I0 F0 hF
  repeat first
    | refine VS.seq ?_
    | (refine VS.keepAt 0 [0] ?_; generalize hK : VS _ _ _ = KK; (try simp); (try subst hK); refine VS.region tabOk (id := 0) [] (by kernel_rfl) ?_; generalize hK : VS _ _ _ = KK; simp (maxSteps := 1000000) [hF]; (try subst hK); try (refine VS.keep [0] ?_; generalize hK : VS _ _ _ = KK; simp; (try subst hK)))
    | (refine VS.keepAt 1 [0] ?_; generalize hK : VS _ _ _ = KK; (try simp); (try subst hK); refine VS.region tabOk (id := 1) [] (by kernel_rfl) ?_; generalize hK : VS _ _ _ = KK; simp (maxSteps := 1000000) [hF]; (try subst hK); try (refine VS.keep [0, 4] ?_; generalize hK : VS _ _ _ = KK; simp; (try subst hK)))
  refine ⟨?_, fun h0 => ?_⟩
  · repeat first
      | refine VS.seq ?_
      | refine VS.skip ?_
      | refine ⟨⟨by omega, by omega⟩, ?_⟩
      | (refine VS.keepAt 3 [0] ?_; generalize hK : VS _ _ _ = KK; (try simp); (try subst hK); refine VS.region tabOk (id := 3) [] (by kernel_rfl) ?_; generalize hK : VS _ _ _ = KK; simp (maxSteps := 1000000) [hF]; (try subst hK); try (refine VS.keep [2] ?_; generalize hK : VS _ _ _ = KK; simp; (try subst hK)))
      | (refine VS.cond ?_; generalize hK1 : VS _ _ _ = KK1; generalize hK2 : VS _ _ _ = KK2; simp (maxSteps := 1000000) [hF]; (try subst hK1); (try subst hK2))
    try refine VS.ret ?_
    repeat first | refine blockN_ret ?_ | refine loopN_ret ?_
    refine endK.of [2] [0] [] (by simp [hF]) (by simp [covers, mpre]) ?_
    simp [hF, retK]
  · repeat first
      | refine VS.seq ?_
      | (refine VS.keepAt 2 [] ?_; generalize hK : VS _ _ _ = KK; (try simp); (try subst hK); refine VS.region tabOk (id := 2) [] (by kernel_rfl) ?_; generalize hK : VS _ _ _ = KK; simp (maxSteps := 1000000) [hF]; (try subst hK); try (refine VS.keep [2] ?_; generalize hK : VS _ _ _ = KK; simp; (try subst hK)))
      | (refine VS.cond ?_; generalize hK1 : VS _ _ _ = KK1; generalize hK2 : VS _ _ _ = KK2; simp (maxSteps := 1000000) [hF]; (try subst hK1); (try subst hK2))
    refine VS.hold0 2 1 (by simp) ?_
    subst h0
    try refine VS.ret ?_
    repeat first | refine blockN_ret ?_ | refine loopN_ret ?_
    refine endK.of [2] [0] [] (by simp [hF]) (by simp [covers, mpre]) ?_
    simp [hF, retK, dStrs, sq_nil]

/- slices.Clone[[]int,int] -/
theorem cloneIntI_ok (ex : Bool) (l : List Int) (hl : l.length ≤ 1000000) : Meets Try.prog 52 [] (.cons (.imm 1 (dInts l) ex) .nil)
    fun av X κ => av = .sub 0 [] 0 l.length false ∧ X = [.sl true () 1 (dInts l)] ∧ κ = [] := by
  refine Meets.of_vs tabOk Try.func52 (body := ?_) ?_ (by kernel_rfl) Try.ntmps52 (rs := [.tmp 2]) (by kernel_rfl) rfl (by simp [AV.len]) (by simp only [envOf]; exact rfl) ?_
  rotate_left
  · rfl
  intro w0 I0 F0 hF
  repeat first
    | refine VS.seq ?_
    | (refine VS.keepAt 0 [0] ?_; generalize hK : VS _ _ _ = KK; (try simp); (try subst hK); refine VS.region tabOk (id := 0) [] (by kernel_rfl) ?_; generalize hK : VS _ _ _ = KK; simp (maxSteps := 1000000) [hF]; (try subst hK); try (refine VS.keep [0] ?_; generalize hK : VS _ _ _ = KK; simp; (try subst hK)))
    | (refine VS.keepAt 1 [0] ?_; generalize hK : VS _ _ _ = KK; (try simp); (try subst hK); refine VS.region tabOk (id := 1) [] (by kernel_rfl) ?_; generalize hK : VS _ _ _ = KK; simp (maxSteps := 1000000) [hF]; (try subst hK); try (refine VS.keep [0, 4] ?_; generalize hK : VS _ _ _ = KK; simp; (try subst hK)))
  refine ⟨?_, fun h0 => ?_⟩
  · repeat first
      | refine VS.seq ?_
      | refine VS.skip ?_
      | refine ⟨⟨by omega, by omega⟩, ?_⟩
      | (refine VS.keepAt 3 [0] ?_; generalize hK : VS _ _ _ = KK; (try simp); (try subst hK); refine VS.region tabOk (id := 3) [] (by kernel_rfl) ?_; generalize hK : VS _ _ _ = KK; simp (maxSteps := 1000000) [hF]; (try subst hK); try (refine VS.keep [2] ?_; generalize hK : VS _ _ _ = KK; simp; (try subst hK)))
      | (refine VS.cond ?_; generalize hK1 : VS _ _ _ = KK1; generalize hK2 : VS _ _ _ = KK2; simp (maxSteps := 1000000) [hF]; (try subst hK1); (try subst hK2))
    try refine VS.ret ?_
    repeat first | refine blockN_ret ?_ | refine loopN_ret ?_
    refine endK.of [2] [0] [] (by simp [hF]) (by simp [covers, mpre]) ?_
    simp [hF, retK]
  · repeat first
      | refine VS.seq ?_
      | (refine VS.keepAt 2 [] ?_; generalize hK : VS _ _ _ = KK; (try simp); (try subst hK); refine VS.region tabOk (id := 2) [] (by kernel_rfl) ?_; generalize hK : VS _ _ _ = KK; simp (maxSteps := 1000000) [hF]; (try subst hK); try (refine VS.keep [2] ?_; generalize hK : VS _ _ _ = KK; simp; (try subst hK)))
      | (refine VS.cond ?_; generalize hK1 : VS _ _ _ = KK1; generalize hK2 : VS _ _ _ = KK2; simp (maxSteps := 1000000) [hF]; (try subst hK1); (try subst hK2))
    refine VS.hold0 2 1 (by simp) ?_
    subst h0
    try refine VS.ret ?_
    repeat first | refine blockN_ret ?_ | refine loopN_ret ?_
    refine endK.of [2] [0] [] (by simp [hF]) (by simp [covers, mpre]) ?_
    simp [hF, retK, dInts, sq_nil]

/- (*cabochon/shape.Space).real -/
theorem realI_ok (S : Sp) : Meets Try.prog 38 [] (.cons (.iptr (dSpI S)) .nil) fun av X κ => av = .val (.bool (realB S)) ∧ X = [] ∧ κ = [] := by
  refine Meets.of_vs tabOk Try.func38 (body := ?_) ?_ (by kernel_rfl) Try.ntmps38 (rs := [.tmp 2]) (by kernel_rfl) rfl (by simp [AV.len]) (by simp only [envOf]; exact rfl) ?_
  rotate_left
  · rfl
  intro w0 I0 F0 hF
  repeat first
    | refine VS.seq ?_
    | (refine VS.keepAt 0 [0] ?_; generalize hK : VS _ _ _ = KK; (try simp); (try subst hK); refine VS.region tabOk (id := 0) [] (by kernel_rfl) ?_; generalize hK : VS _ _ _ = KK; simp (maxSteps := 1000000) [hF, dSpI]; (try subst hK); try (refine VS.keep [0] ?_; generalize hK : VS _ _ _ = KK; simp; (try subst hK)))
    | (refine VS.keepAt 1 [0] ?_; generalize hK : VS _ _ _ = KK; (try simp); (try subst hK); refine VS.region tabOk (id := 1) [(2, 5)] (by kernel_rfl) ?_; generalize hK : VS _ _ _ = KK; simp (maxSteps := 1000000) [hF, dSpI]; (try subst hK); try (refine VS.keep [2] ?_; generalize hK : VS _ _ _ = KK; simp; (try subst hK)))
  try refine VS.ret ?_
  repeat first | refine blockN_ret ?_ | refine loopN_ret ?_
  refine endK.of [2] [] [] (by simp [hF]) (by simp [covers, mpre]) ?_
  simp [hF, retK, dSpI, realB]

/-- The objects of a copy, so far. -/
def dObsM (i : Nat) (l : List Ob) : D := sq ((l.take i).map dOb ++ (l.drop i).map dObI)

theorem dObsM_zero (l : List Ob) : dObsM 0 l = dObsI l := by simp [dObsM, dObsI]
theorem dObsM_end (l : List Ob) : dObsM l.length l = dObs l := by simp [dObsM, dObs]
@[simp] theorem dObsM_len (i : Nat) (l : List Ob) : (dObsM i l).len = l.length := by simp [dObsM]; omega
theorem dObsM_at {l : List Ob} {i : Nat} (h : i < l.length) : (dObsM i l).nth i = .agg (.cons (.val (.int .i64 l[i].shape)) (.cons (.sl false () 1 (dStrs (ownOf l[i]))) (.cons (.sl false () 1 (dInts l[i].words)) (.cons (.val (.bool l[i].frozen)) .nil)))) := by
  rw [dObsM, sq_nth_lt (by simp; omega), List.getElem_append_right (by simp; omega)]
  simp [dObI, Nat.min_eq_left (Nat.le_of_lt h)]
  exact ⟨rfl, rfl⟩
theorem dObsM_set {l : List Ob} {i : Nat} (h : i < l.length) : (dObsM i l).setN i (.agg (.cons (.val (.int .i64 l[i].shape)) (.cons (.sl true () 1 (dStrs (ownOf l[i]))) (.cons (.sl true () 1 (dInts l[i].words)) (.cons (.val (.bool l[i].frozen)) .nil))))) = dObsM (i + 1) l := by
  rw [dObsM, sq_setN, dObsM]
  congr 1
  have e1 : l.drop i = l[i] :: l.drop (i + 1) := List.drop_eq_getElem_cons h
  have e2 : l.take (i + 1) = l.take i ++ [l[i]] := by rw [List.take_add_one, List.getElem?_eq_getElem h]; rfl
  rw [e1, e2, List.set_append_right _ _ (by simp; omega)]
  have e3 : i - (List.map dOb (List.take i l)).length = 0 := by simp; omega
  rw [e3, List.map_cons, List.set_cons_zero, List.map_append, List.append_assoc]
  rfl

/- (*cabochon/shape.Space).Copy -/
theorem copyI_ok (S : Sp) {N : Nat} (hS : WF S N) (hp : 0 < S.shapes.length) (hN : N < 1000000) : Meets Try.prog 33 [] (.cons (.iptr (dSpI S)) .nil)
    fun av X κ => av = .ptr 0 [.d] ∧ X = [dSp S] ∧ κ = [] := by
  have hr : realB S = true := by simp [realB]; omega
  have hns := hS.sh.ns
  have hno := hS.no
  refine Meets.of_vs tabOk Try.func33 (body := ?_) ?_ (by kernel_rfl) Try.ntmps33 (rs := [.tmp 2]) (by kernel_rfl) rfl (by simp [AV.len]) (by simp only [envOf]; exact rfl) ?_
  rotate_left
  · rfl
  intro w0 I0 F0 hF
  repeat first
    | refine VS.seq ?_
    | (refine VS.keepAt 0 [0] ?_; generalize hK : VS _ _ _ = KK; (try simp); (try subst hK); refine VS.region tabOk (id := 0) [] (by kernel_rfl) ?_; generalize hK : VS _ _ _ = KK; simp (maxSteps := 1000000) [hF]; (try subst hK); try (refine VS.keep [0] ?_; generalize hK : VS _ _ _ = KK; simp; (try subst hK)))
    | (refine VS.keepAt 1 [0] ?_; generalize hK : VS _ _ _ = KK; (try simp); (try subst hK); refine VS.region tabOk (id := 1) [] (by kernel_rfl) ?_; generalize hK : VS _ _ _ = KK; simp (maxSteps := 1000000) [hF]; (try subst hK); try (refine VS.keep [0, 8] ?_; generalize hK : VS _ _ _ = KK; simp; (try subst hK)))
  refine (realI_ok S).call [] (by simp) (by simp (maxSteps := 1000000) [hF, dSpI, hr]) (by simp (maxSteps := 1000000) [hF, dSpI, hr]) (by simp (maxSteps := 1000000) [hF, dSpI, hr]) (by simp) ?_
  rintro av X κ ⟨rfl, rfl, rfl⟩
  generalize hK : VS _ _ _ = KK; simp (maxSteps := 1000000) [hF, dSpI, hr]; (try subst hK)
  repeat first
    | refine VS.seq ?_
    | refine VS.skip ?_
    | (refine VS.keepAt 3 [0] ?_; generalize hK : VS _ _ _ = KK; (try simp); (try subst hK); refine VS.drawnE tabOk mixedOk (id := 3) 528 [] [⟨0, 1, 512, 5⟩, ⟨1, 512, 1024, 5⟩, ⟨2, 1024, 2048, 5⟩, ⟨4, 2048, 4096, 6⟩, ⟨8, 4096, 8192, 0⟩, ⟨0, 1, 16384, 5⟩, ⟨32, 16384, 32768, 5⟩, ⟨64, 32768, 65536, 5⟩, ⟨128, 65536, 131072, 6⟩, ⟨272, 131072, 262144, 0⟩, ⟨528, 270336, 524288, 5⟩, ⟨1024, 524288, 1048576, 4⟩, ⟨4095, 1048576, 8, 5⟩] (.take 0 (.take 1 (.take 2 (.take 3 (.take 5 (.take 6 (.take 7 (.take 8 (.fork (.alt 4 (.fork (.alt 9 (.take 10 (.fork (.alt 11 (.take 12 (.done)) (.nil)))) (.nil))) (.nil))))))))))) (.run [0, 1, 2, 3, 5, 6, 7, 8] (.chk 4 (.run [4] (.chk 9 (.run [9, 10, 11, 12] (.done)))))) (by kernel_rfl) (by kernel_rfl) (by kernel_rfl) ?_; generalize hK : VS _ _ _ = KK; simp only [opsVc_run, opsVc_both, opsVc_chk, opsVc_done, opsVc_yes, pick_cons, pick_nil, List.getElem?_cons_zero, List.getElem?_cons_succ]; simp (maxSteps := 1000000) [hF, dSpI]; (try subst hK); try (refine VS.keep [3] ?_; generalize hK : VS _ _ _ = KK; simp; (try subst hK)))
    | (refine VS.cond ?_; generalize hK1 : VS _ _ _ = KK1; generalize hK2 : VS _ _ _ = KK2; simp (maxSteps := 1000000) [hF, dSpI]; (try subst hK1); (try subst hK2))
  all_goals
    refine (cloneSh_ok false S.shapes (by omega)).call [] (by simp) (by simp (maxSteps := 1000000) [hF]) (by simp (maxSteps := 1000000) [hF]) (by simp (maxSteps := 1000000) [hF]) (by simp) ?_
    rintro av X κ ⟨rfl, rfl, rfl⟩
    generalize hK : VS _ _ _ = KK; simp (maxSteps := 1000000) [hF]; (try subst hK)
    refine (cloneOb_ok false S.objs (by omega)).call [] (by simp) (by simp (maxSteps := 1000000) [hF]) (by simp (maxSteps := 1000000) [hF]) (by simp (maxSteps := 1000000) [hF]) (by simp) ?_
    rintro av X κ ⟨rfl, rfl, rfl⟩
    generalize hK : VS _ _ _ = KK; simp (maxSteps := 1000000) [hF]; (try subst hK)
    repeat first
      | refine VS.seq ?_
      | refine VS.block ?_
      | (refine VS.keepAt 4 [3] ?_; generalize hK : VS _ _ _ = KK; (try simp); (try subst hK); refine VS.region tabOk (id := 4) [] (by kernel_rfl) ?_; generalize hK : VS _ _ _ = KK; simp (maxSteps := 1000000) [hF]; (try subst hK); try (refine VS.keep [3, 24, 25, 26] ?_; generalize hK : VS _ _ _ = KK; simp; (try subst hK)))
    refine VS.rounds (fun m st => ∃ (i : Nat), i + m = S.objs.length ∧ st = ⟨[(3, .ptr 2 [.d]), (24, .sub 2 [.d, .f 1] 0 S.objs.length false), (25, .val (.int .i64 (S.objs.length : Int))), (26, .val (.int .i64 (i : Int)))],
      [.junk (), .junk (), .box true () (.agg (.cons (.sl true () 2 (dShs S.shapes)) (.cons (.sl true () 4 (dObsM i S.objs)) .nil)))], [], []⟩) ⟨S.objs.length, 0, by omega, by rw [dObsM_zero]; rfl⟩ ?_
    rintro m st ⟨i, him, rfl⟩
    repeat first
      | refine VS.seq ?_
      | (refine VS.keepAt 5 [3, 24, 25, 26] ?_; generalize hK : VS _ _ _ = KK; (try simp); (try subst hK); refine VS.region tabOk (id := 5) [] (by kernel_rfl) ?_; generalize hK : VS _ _ _ = KK; simp (maxSteps := 1000000) [hF]; (try subst hK); try (refine VS.keep [3, 24, 25, 26, 27] ?_; generalize hK : VS _ _ _ = KK; simp; (try subst hK)))
      | (refine VS.cond ?_; generalize hK1 : VS _ _ _ = KK1; generalize hK2 : VS _ _ _ = KK2; simp (maxSteps := 1000000) [hF]; (try subst hK1); (try subst hK2))
    refine ⟨fun hlt => ?_, fun hge => ?_⟩
    · have hi : i < S.objs.length := by omega
      have hil : i < (dObsM i S.objs).len := by simpa using hi
      have ho := hS.ob _ (List.getElem_mem hi)
      have hnl := ho.names_len
      have hwl := ho.1
      have hol : (ownOf S.objs[i]).length ≤ N := by
        unfold ownOf; split
        · exact hnl
        · simp
      have hset := dObsM_set hi
      repeat first
        | refine VS.seq ?_
        | refine VS.skip ?_
        | refine VS.block ?_
        | (refine VS.keepAt 6 [3, 24, 25, 26] ?_; generalize hK : VS _ _ _ = KK; (try simp); (try subst hK); refine VS.region tabOk (id := 6) [] (by kernel_rfl) ?_; generalize hK : VS _ _ _ = KK; simp (maxSteps := 1000000) [hF, dObsM_at hi, hi]; (try subst hK); try (refine VS.keep [3, 4, 5, 24, 25, 26] ?_; generalize hK : VS _ _ _ = KK; simp; (try subst hK)))
        | (refine VS.keepAt 7 [3, 4, 5, 24, 25, 26] ?_; generalize hK : VS _ _ _ = KK; (try simp); (try subst hK); refine VS.drawnE tabOk mixedOk (id := 7) 36864 [] [⟨0, 8, 2147483648, 5⟩, ⟨1, 2147483648, 4294967296, 5⟩, ⟨2, 4294967296, 8589934592, 5⟩, ⟨4, 8589934592, 17179869184, 6⟩, ⟨0, 16, 34359738368, 5⟩, ⟨0, 8, 68719476736, 5⟩, ⟨32, 68719476736, 137438953472, 5⟩, ⟨64, 137438953472, 274877906944, 5⟩, ⟨128, 274877906944, 549755813888, 6⟩, ⟨0, 16, 1099511627776, 5⟩, ⟨0, 32, 2199023255552, 5⟩, ⟨1024, 2199023255552, 4398046511104, 6⟩, ⟨2048, 4398046511104, 8796093022208, 0⟩, ⟨0, 32, 17592186044416, 5⟩, ⟨8192, 17592186044416, 35184372088832, 6⟩, ⟨20480, 35184372088832, 70368744177664, 0⟩, ⟨40223, 51539607552, 140737488355328, 5⟩, ⟨105759, 140737488355328, 281474976710656, 5⟩, ⟨171295, 290271069732864, 0, 0⟩, ⟨524287, 1649267441664, 562949953421312, 5⟩, ⟨1048575, 562949953421312, 1125899906842624, 5⟩, ⟨1572863, 1196268651020288, 0, 0⟩] (.take 0 (.take 1 (.take 2 (.take 3 (.take 4 (.take 5 (.take 6 (.take 7 (.take 8 (.take 9 (.take 10 (.take 11 (.take 13 (.take 14 (.fork (.alt 12 (.fork (.alt 15 (.take 16 (.take 17 (.fork (.alt 18 (.take 19 (.take 20 (.fork (.alt 21 (.done) (.nil))))) (.nil))))) (.nil))) (.nil))))))))))))))))) (.run [0, 1, 2, 3, 4, 5, 6, 7, 8, 9, 10, 11, 13, 14] (.chk 12 (.run [12] (.chk 15 (.run [15, 16, 17, 18, 19, 20, 21] (.done)))))) (by kernel_rfl) (by kernel_rfl) (by kernel_rfl) ?_; generalize hK : VS _ _ _ = KK; simp only [opsVc_run, opsVc_both, opsVc_chk, opsVc_done, opsVc_yes, pick_cons, pick_nil, List.getElem?_cons_zero, List.getElem?_cons_succ]; simp (maxSteps := 1000000) [hF, dObsM_at hi, hi]; (try subst hK); try (refine VS.keep [3, 24, 25, 26] ?_; generalize hK : VS _ _ _ = KK; simp; (try subst hK)))
      all_goals
        refine (cloneStrI_ok false (ownOf S.objs[i]) (by omega)).call [] (by simp) (by simp (maxSteps := 1000000) [hF, dObsM_at hi, hi]) (by simp (maxSteps := 1000000) [hF, dObsM_at hi, hi]) (by simp (maxSteps := 1000000) [hF, dObsM_at hi, hi]) (by simp) ?_
        rintro av X κ ⟨rfl, rfl, rfl⟩
        generalize hK : VS _ _ _ = KK; simp (maxSteps := 1000000) [hF, dObsM_at hi, hi]; (try subst hK)
      all_goals
        refine (cloneIntI_ok false S.objs[i].words (by omega)).call [] (by simp) (by simp (maxSteps := 1000000) [hF, dObsM_at hi, hi, T.nth_setN_same _ hil, hset]) (by simp (maxSteps := 1000000) [hF, dObsM_at hi, hi, T.nth_setN_same _ hil, hset]) (by simp (maxSteps := 1000000) [hF, dObsM_at hi, hi, T.nth_setN_same _ hil, hset]) (by simp) ?_
        rintro av X κ ⟨rfl, rfl, rfl⟩
        generalize hK : VS _ _ _ = KK; simp (maxSteps := 1000000) [hF, dObsM_at hi, hi, T.nth_setN_same _ hil, hset]; (try subst hK)
      all_goals
        repeat first
          | refine VS.nil ?_
          | refine blockN_normal ?_
          | refine loopN_normal ?_
          | (refine VS.keepAt 8 [3, 24, 25, 26] ?_; generalize hK : VS _ _ _ = KK; (try simp); (try subst hK); refine VS.region tabOk (id := 8) [] (by kernel_rfl) ?_; generalize hK : VS _ _ _ = KK; simp (maxSteps := 1000000) [hF, dObsM_at hi, hi]; (try subst hK); try (refine VS.keep [3, 24, 25, 26] ?_; generalize hK : VS _ _ _ = KK; simp; (try subst hK)))
        refine nextK.of [3, 24, 25, 26] [0, 1, 2] (m - 1) (by omega) (by simp [hF]) ?_
        refine ⟨i + 1, by omega, ?_⟩
        simp [hset]
        exact IntWalk.i64_in _ (by omega)
    · obtain rfl : i = S.objs.length := by omega
      rw [dObsM_end]
      repeat first
        | refine VS.seq ?_
        | refine VS.exit ?_
        | (refine VS.keepAt 9 [3] ?_; generalize hK : VS _ _ _ = KK; (try simp); (try subst hK); refine VS.region tabOk (id := 9) [] (by kernel_rfl) ?_; generalize hK : VS _ _ _ = KK; simp (maxSteps := 1000000) [hF]; (try subst hK); try (refine VS.keep [2] ?_; generalize hK : VS _ _ _ = KK; simp; (try subst hK)))
      try refine VS.ret ?_
      repeat first | refine blockN_ret ?_ | refine loopN_ret ?_
      refine endK.of [2] [2] [] (by simp [hF]) (by simp [covers, mpre]) ?_
      simp [hF, retK, dSp]

/- (*cabochon/shape.Space).Copy -/
theorem copy_ok (S : Sp) {N : Nat} (hS : WF S N) (hp : 0 < S.shapes.length) (hN : N < 1000000) : Meets Try.prog 33 [dSp S] (.cons (.ptr 0 [.d]) .nil)
    fun av X κ => av = .ptr 1 [.d] ∧ X = [dSp S, dSp S] ∧ κ = [] := by
  obtain ⟨d, e1, e2⟩ := freeze_sp S
  have h := copyI_ok S hS hp hN
  rw [← e2] at h
  have hsq : ∀ l : List D, (∀ x ∈ l, x.allOwn = true) → (sq l).allOwn = true := by
    intro l
    induction l with
    | nil => intro _; rfl
    | cons a l ih => intro h; simp only [sq, T.allOwn, Bool.and_eq_true]; exact ⟨h a (by simp), ih fun x hx => h x (by simp [hx])⟩
  have hst : ∀ l : List ByteArray, (dStrs l).allOwn = true := fun l => hsq _ fun x hx => by obtain ⟨_, _, rfl⟩ := List.mem_map.1 hx; rfl
  have hin : ∀ l : List Int, (dInts l).allOwn = true := fun l => hsq _ fun x hx => by obtain ⟨_, _, rfl⟩ := List.mem_map.1 hx; rfl
  have ho : (dSp S).allOwn = true := by
    have h1 : (dShs S.shapes).allOwn = true := hsq _ fun x hx => by obtain ⟨_, _, rfl⟩ := List.mem_map.1 hx; rfl
    have h2 : (dObs S.objs).allOwn = true := hsq _ fun x hx => by
      obtain ⟨o, _, rfl⟩ := List.mem_map.1 hx
      simp [dOb, T.allOwn, hst, hin, dInt, dBool]
    simp [dSp, T.allOwn, h1, h2]
  have h2 := Meets.thaw h rfl fun av X κ ⟨h1, h2, _⟩ => by
    subst h1; subst h2
    exact ⟨rfl, fun x hx => by simp only [List.mem_singleton] at hx; subst hx; exact ho⟩
  rw [← e1] at h2
  refine h2.mono fun av X κ ⟨av0, X0, κ0, ⟨h3, h4, _⟩, h5, h6, h7⟩ => ?_
  subst h3; subst h4
  exact ⟨h5, h6, h7⟩
end Go.Proofs.Ythcndkpkkaphoaa

/- ShapeCopies: a copy goes on alike, and neither is changed by the other one's deeds. -/
namespace Go.Proofs.Ythcndkpkkaphoaa
set_option linter.all false
open Go.Vc Go.Proofs
set_option linter.unusedSimpArgs false
set_option maxRecDepth 100000
set_option maxHeartbeats 4000000
attribute [local irreducible] CallW EqK

/- cabochon/cabochonlaw20.ShapeCopies -/
theorem copies_ok (ex ex2 : Bool) (l more : List Deed) : Meets Try.prog 8 [] (.cons (.imm 4 (dDeeds l) ex) (.cons (.imm 4 (dDeeds more) ex2) .nil)) fun av X κ => av = .val (.bool true) := by
  obtain ⟨hwf, hpos⟩ := playedOf_wf l
  refine Meets.of_vs tabOk Try.func8 (body := ?_) ?_ (by kernel_rfl) Try.ntmps8 (rs := [.tmp 4]) (by kernel_rfl) rfl (by simp [AV.len]) (by simp only [envOf]; exact rfl) ?_
  rotate_left
  · rfl
  intro w0 I0 F0 hF
  repeat first
    | refine VS.seq ?_
    | (refine VS.keepAt 0 [0, 1] ?_; generalize hK : VS _ _ _ = KK; (try simp); (try subst hK); refine VS.region tabOk (id := 0) [] (by kernel_rfl) ?_; generalize hK : VS _ _ _ = KK; simp (maxSteps := 1000000) [hF]; (try subst hK); try (refine VS.keep [0, 1] ?_; generalize hK : VS _ _ _ = KK; simp; (try subst hK)))
    | (refine VS.keepAt 1 [0, 1] ?_; generalize hK : VS _ _ _ = KK; (try simp); (try subst hK); refine VS.region tabOk (id := 1) [] (by kernel_rfl) ?_; generalize hK : VS _ _ _ = KK; simp (maxSteps := 1000000) [hF]; (try subst hK); try (refine VS.keep [0, 1, 25] ?_; generalize hK : VS _ _ _ = KK; simp; (try subst hK)))
    | (refine VS.cond ?_; generalize hK1 : VS _ _ _ = KK1; generalize hK2 : VS _ _ _ = KK2; simp (maxSteps := 1000000) [hF]; (try subst hK1); (try subst hK2))
  refine ⟨fun hlen => ?_, fun hlen => ?_⟩
  · repeat first
      | refine VS.seq ?_
      | (refine VS.keepAt 2 [] ?_; generalize hK : VS _ _ _ = KK; (try simp); (try subst hK); refine VS.region tabOk (id := 2) [] (by kernel_rfl) ?_; generalize hK : VS _ _ _ = KK; simp (maxSteps := 1000000) [hF]; (try subst hK); try (refine VS.keep [4] ?_; generalize hK : VS _ _ _ = KK; simp; (try subst hK)))
    refine (sane_ok).call [] (by simp) (by simp (maxSteps := 1000000) [hF]) (by simp (maxSteps := 1000000) [hF]) (by simp (maxSteps := 1000000) [hF]) (by simp) ?_
    rintro av X κ ⟨rfl, rfl, rfl⟩
    generalize hK : VS _ _ _ = KK; simp (maxSteps := 1000000) [hF]; (try subst hK)
    try refine VS.ret ?_
    repeat first | refine blockN_ret ?_ | refine loopN_ret ?_
    refine endK.of [4] [] [] (by simp [hF]) (by simp [covers, mpre]) ?_
    simp [hF, retK]
  · have hlen' : more.length ≤ 100 := by omega
    repeat first
      | refine VS.seq ?_
      | refine VS.skip ?_
      | (refine VS.keepAt 3 [0, 1] ?_; generalize hK : VS _ _ _ = KK; (try simp); (try subst hK); refine VS.region tabOk (id := 3) [] (by kernel_rfl) ?_; generalize hK : VS _ _ _ = KK; simp (maxSteps := 1000000) [hF]; (try subst hK); try (refine VS.keep [0, 1, 5] ?_; generalize hK : VS _ _ _ = KK; simp; (try subst hK)))
    refine (played_ok ex l).call [] (by simp) (by simp (maxSteps := 1000000) [hF]) (by simp (maxSteps := 1000000) [hF]) (by simp (maxSteps := 1000000) [hF]) (by simp) ?_
    rintro av X κ ⟨rfl, rfl, rfl⟩
    generalize hK : VS _ _ _ = KK; simp (maxSteps := 1000000) [hF]; (try subst hK)
    repeat first
      | refine VS.seq ?_
      | (refine VS.keepAt 4 [0, 1, 5] ?_; generalize hK : VS _ _ _ = KK; (try simp); (try subst hK); refine VS.region tabOk (id := 4) [] (by kernel_rfl) ?_; generalize hK : VS _ _ _ = KK; simp (maxSteps := 1000000) [hF]; (try subst hK); try (refine VS.keep [0, 1, 5, 6] ?_; generalize hK : VS _ _ _ = KK; simp; (try subst hK)))
    refine (copy_ok (playedOf l) hwf hpos (by omega)).call [(0, [])] (by simp) (by simp (maxSteps := 1000000) [hF, dSp]) (by simp (maxSteps := 1000000) [hF, dSp]) (by simp (maxSteps := 1000000) [hF, dSp]) (by simp) ?_
    rintro av X κ ⟨rfl, rfl, rfl⟩
    generalize hK : VS _ _ _ = KK; simp (maxSteps := 1000000) [hF, dSp]; (try subst hK)
    repeat first
      | refine VS.seq ?_
      | (refine VS.keepAt 5 [0, 1, 5, 6] ?_; generalize hK : VS _ _ _ = KK; (try simp); (try subst hK); refine VS.region tabOk (id := 5) [] (by kernel_rfl) ?_; generalize hK : VS _ _ _ = KK; simp (maxSteps := 1000000) [hF]; (try subst hK); try (refine VS.keep [0, 1, 5, 6, 7] ?_; generalize hK : VS _ _ _ = KK; simp; (try subst hK)))
    refine (played_ok ex l).call [] (by simp) (by simp (maxSteps := 1000000) [hF]) (by simp (maxSteps := 1000000) [hF]) (by simp (maxSteps := 1000000) [hF]) (by simp) ?_
    rintro av X κ ⟨rfl, rfl, rfl⟩
    generalize hK : VS _ _ _ = KK; simp (maxSteps := 1000000) [hF]; (try subst hK)
    repeat first
      | refine VS.seq ?_
      | (refine VS.keepAt 6 [0, 1, 5, 6, 7] ?_; generalize hK : VS _ _ _ = KK; (try simp); (try subst hK); refine VS.region tabOk (id := 6) [] (by kernel_rfl) ?_; generalize hK : VS _ _ _ = KK; simp (maxSteps := 1000000) [hF]; (try subst hK); try (refine VS.keep [1, 5, 6, 7, 8] ?_; generalize hK : VS _ _ _ = KK; simp; (try subst hK)))
    refine (played_ok ex l).call [] (by simp) (by simp (maxSteps := 1000000) [hF]) (by simp (maxSteps := 1000000) [hF]) (by simp (maxSteps := 1000000) [hF]) (by simp) ?_
    rintro av X κ ⟨rfl, rfl, rfl⟩
    generalize hK : VS _ _ _ = KK; simp (maxSteps := 1000000) [hF]; (try subst hK)
    generalize playedOf l = S at *
    repeat first
      | refine VS.seq ?_
      | refine VS.skip ?_
      | refine VS.block ?_
      | (refine VS.keepAt 7 [1, 5, 6, 7, 8] ?_; generalize hK : VS _ _ _ = KK; (try simp); (try subst hK); refine VS.region tabOk (id := 7) [] (by kernel_rfl) ?_; generalize hK : VS _ _ _ = KK; simp (maxSteps := 1000000) [hF]; (try subst hK); try (refine VS.keep [1, 5, 6, 7, 8, 36] ?_; generalize hK : VS _ _ _ = KK; simp; (try subst hK)))
      | (refine VS.keepAt 9 [1, 5, 6, 7, 8] ?_; generalize hK : VS _ _ _ = KK; (try simp); (try subst hK); refine VS.region tabOk (id := 9) [] (by kernel_rfl) ?_; generalize hK : VS _ _ _ = KK; simp (maxSteps := 1000000) [hF]; (try subst hK); try (refine VS.keep [1, 5, 6, 7, 8, 9] ?_; generalize hK : VS _ _ _ = KK; simp; (try subst hK)))
      | (refine VS.cond ?_; generalize hK1 : VS _ _ _ = KK1; generalize hK2 : VS _ _ _ = KK2; simp (maxSteps := 1000000) [hF]; (try subst hK1); (try subst hK2))
    refine VS.rounds (fun m st => ∃ (i : Nat) (S2 : Sp), i + m = more.length ∧ WF S2 (400 + i) ∧ 0 < S2.shapes.length ∧
      st = ⟨[(1, .imm 4 (dDeeds more) ex2), (5, .ptr 0 [.d]), (6, .ptr 1 [.d]), (7, .ptr 2 [.d]), (8, .ptr 3 [.d]), (9, avInt i)], [dSp S, dSp S2, dSp S2, dSp S], [], []⟩) ⟨more.length, 0, S, by omega, hwf, hpos, by simp [dSp]⟩ ?_
    rintro m st ⟨i, S2, him, hwf2, hpos2, rfl⟩
    repeat first
      | refine VS.seq ?_
      | (refine VS.keepAt 10 [1, 5, 6, 7, 8, 9] ?_; generalize hK : VS _ _ _ = KK; (try simp); (try subst hK); refine VS.region tabOk (id := 10) [] (by kernel_rfl) ?_; generalize hK : VS _ _ _ = KK; simp (maxSteps := 1000000) [hF]; (try subst hK); try (refine VS.keep [1, 5, 6, 7, 8, 9, 40] ?_; generalize hK : VS _ _ _ = KK; simp; (try subst hK)))
      | (refine VS.cond ?_; generalize hK1 : VS _ _ _ = KK1; generalize hK2 : VS _ _ _ = KK2; simp (maxSteps := 1000000) [hF]; (try subst hK1); (try subst hK2))
    refine ⟨fun hlt => ?_, fun hge => ?_⟩
    · have hi : i < more.length := by omega
      have hn := dDeeds_nth hi
      repeat first
        | refine VS.seq ?_
        | refine VS.skip ?_
        | refine VS.block ?_
        | (refine VS.keepAt 12 [1, 5, 6, 7, 8, 9] ?_; generalize hK : VS _ _ _ = KK; (try simp); (try subst hK); refine VS.region tabOk (id := 12) [] (by kernel_rfl) ?_; generalize hK : VS _ _ _ = KK; simp (maxSteps := 1000000) [hF, hi, hn]; (try subst hK); try (refine VS.keep [1, 5, 6, 7, 8, 9, 10, 11] ?_; generalize hK : VS _ _ _ = KK; simp; (try subst hK)))
      refine (small_ok more[i]).call [] (by simp) (by simp (maxSteps := 1000000) [hF, avDeed]) (by simp (maxSteps := 1000000) [hF, avDeed]) (by simp (maxSteps := 1000000) [hF, avDeed]) (by simp) ?_
      rintro av X κ ⟨rfl, rfl, rfl⟩
      generalize hK : VS _ _ _ = KK; simp (maxSteps := 1000000) [hF, avDeed]; (try subst hK)
      refine (do_ok S2 hwf2 (by omega) (smallOf more[i])).call [(1, [])] (by simp) (by simp (maxSteps := 1000000) [hF, dSp, avDeed]) (by simp (maxSteps := 1000000) [hF, dSp, avDeed]) (by simp (maxSteps := 1000000) [hF, dSp, avDeed]) (by simp) ?_
      rintro av X κ ⟨rfl, rfl, rfl⟩
      generalize hK : VS _ _ _ = KK; simp (maxSteps := 1000000) [hF, dSp, avDeed]; (try subst hK)
      repeat first
        | refine VS.seq ?_
        | (refine VS.keepAt 13 [1, 5, 6, 7, 8, 9, 10, 11] ?_; generalize hK : VS _ _ _ = KK; (try simp); (try subst hK); refine VS.region tabOk (id := 13) [] (by kernel_rfl) ?_; generalize hK : VS _ _ _ = KK; simp (maxSteps := 1000000) [hF, hi, hn]; (try subst hK); try (refine VS.keep [1, 5, 6, 7, 8, 9, 10, 11, 12, 13] ?_; generalize hK : VS _ _ _ = KK; simp; (try subst hK)))
      refine (small_ok more[i]).call [] (by simp) (by simp (maxSteps := 1000000) [hF, avDeed]) (by simp (maxSteps := 1000000) [hF, avDeed]) (by simp (maxSteps := 1000000) [hF, avDeed]) (by simp) ?_
      rintro av X κ ⟨rfl, rfl, rfl⟩
      generalize hK : VS _ _ _ = KK; simp (maxSteps := 1000000) [hF, avDeed]; (try subst hK)
      refine (do_ok S2 hwf2 (by omega) (smallOf more[i])).call [(2, [])] (by simp) (by simp (maxSteps := 1000000) [hF, dSp, avDeed]) (by simp (maxSteps := 1000000) [hF, dSp, avDeed]) (by simp (maxSteps := 1000000) [hF, dSp, avDeed]) (by simp) ?_
      rintro av X κ ⟨rfl, rfl, rfl⟩
      generalize hK : VS _ _ _ = KK; simp (maxSteps := 1000000) [hF, dSp, avDeed]; (try subst hK)
      repeat first
        | refine VS.seq ?_
        | refine VS.skip ?_
        | refine VS.nil ?_
        | refine blockN_normal ?_
        | refine loopN_normal ?_
        | (refine VS.keepAt 11 [1, 5, 6, 7, 8, 9] ?_; generalize hK : VS _ _ _ = KK; (try simp); (try subst hK); refine VS.region tabOk (id := 11) [] (by kernel_rfl) ?_; generalize hK : VS _ _ _ = KK; simp (maxSteps := 1000000) [hF]; (try subst hK); try (refine VS.keep [1, 5, 6, 7, 8, 9] ?_; generalize hK : VS _ _ _ = KK; simp; (try subst hK)))
        | (refine VS.keepAt 14 [1, 5, 6, 7, 8, 9, 10, 11, 12, 13] ?_; generalize hK : VS _ _ _ = KK; (try simp); (try subst hK); refine VS.region tabOk (id := 14) [(3, 66)] (by kernel_rfl) ?_; generalize hK : VS _ _ _ = KK; simp (maxSteps := 1000000) [hF]; (try subst hK); try (refine VS.keep [1, 5, 6, 7, 8, 9, 70] ?_; generalize hK : VS _ _ _ = KK; simp; (try subst hK)))
        | (refine VS.cond ?_; generalize hK1 : VS _ _ _ = KK1; generalize hK2 : VS _ _ _ = KK2; simp (maxSteps := 1000000) [hF]; (try subst hK1); (try subst hK2))
      refine nextK.of [1, 5, 6, 7, 8, 9] [0, 1, 2, 3] (m - 1) (by omega) (by simp [hF]) ?_
      refine ⟨i + 1, (doOf S2 (smallOf more[i])).1, by omega, (doOf_wf hwf2 hpos2 _).1, (doOf_wf hwf2 hpos2 _).2, ?_⟩
      simp [dSp]
      exact IntWalk.i64_in _ (by omega)
    · repeat first
        | refine VS.seq ?_
        | refine VS.block ?_
        | refine VS.exit ?_
        | (refine VS.keepAt 16 [5, 6, 7, 8] ?_; generalize hK : VS _ _ _ = KK; (try simp); (try subst hK); refine VS.region tabOk (id := 16) [] (by kernel_rfl) ?_; generalize hK : VS _ _ _ = KK; simp (maxSteps := 1000000) [hF]; (try subst hK); try (refine VS.keep [5, 6, 7, 8, 14] ?_; generalize hK : VS _ _ _ = KK; simp; (try subst hK)))
      refine VS.rounds (fun m st => ∃ (o : Nat), o + m = 5 ∧
        st = ⟨[(5, .ptr 0 [.d]), (6, .ptr 1 [.d]), (7, .ptr 2 [.d]), (8, .ptr 3 [.d]), (14, avInt o)], [dSp S, dSp S2, dSp S2, dSp S], [], []⟩) ⟨5, 0, by omega, by simp [dSp]⟩ ?_
      rintro m st ⟨o, hom, rfl⟩
      repeat first
        | refine VS.seq ?_
        | (refine VS.keepAt 17 [5, 6, 7, 8, 14] ?_; generalize hK : VS _ _ _ = KK; (try simp); (try subst hK); refine VS.region tabOk (id := 17) [] (by kernel_rfl) ?_; generalize hK : VS _ _ _ = KK; simp (maxSteps := 1000000) [hF]; (try subst hK); try (refine VS.keep [5, 6, 7, 8, 14, 72] ?_; generalize hK : VS _ _ _ = KK; simp; (try subst hK)))
        | (refine VS.cond ?_; generalize hK1 : VS _ _ _ = KK1; generalize hK2 : VS _ _ _ = KK2; simp (maxSteps := 1000000) [hF]; (try subst hK1); (try subst hK2))
      refine ⟨fun hlt => ?_, fun hge2 => ?_⟩
      · cases hb : hasB S o with
        | false =>
          repeat first
            | refine VS.seq ?_
            | refine VS.skip ?_
            | refine VS.block ?_
            | (refine VS.keepAt 19 [5, 6, 7, 8, 14] ?_; generalize hK : VS _ _ _ = KK; (try simp); (try subst hK); refine VS.region tabOk (id := 19) [] (by kernel_rfl) ?_; generalize hK : VS _ _ _ = KK; simp (maxSteps := 1000000) [hF]; (try subst hK); try (refine VS.keep [5, 6, 7, 8, 14, 15] ?_; generalize hK : VS _ _ _ = KK; simp; (try subst hK)))
          refine (names1_no S hwf (by omega) o hb).call [(0, [])] (by simp) (by simp (maxSteps := 1000000) [hF, dSp]) (by simp (maxSteps := 1000000) [hF, dSp]) (by simp (maxSteps := 1000000) [hF, dSp]) (by simp) ?_
          rintro av X κ ⟨rfl, rfl, rfl⟩
          generalize hK : VS _ _ _ = KK; simp (maxSteps := 1000000) [hF, dSp]; (try subst hK)
          repeat first
            | refine VS.seq ?_
            | (refine VS.keepAt 20 [5, 6, 7, 8, 14, 15] ?_; generalize hK : VS _ _ _ = KK; (try simp); (try subst hK); refine VS.region tabOk (id := 20) [] (by kernel_rfl) ?_; generalize hK : VS _ _ _ = KK; simp (maxSteps := 1000000) [hF]; (try subst hK); try (refine VS.keep [5, 6, 7, 8, 14, 15, 17] ?_; generalize hK : VS _ _ _ = KK; simp; (try subst hK)))
          refine (names1_no S hwf (by omega) o hb).call [(3, [])] (by simp) (by simp (maxSteps := 1000000) [hF, dSp]) (by simp (maxSteps := 1000000) [hF, dSp]) (by simp (maxSteps := 1000000) [hF, dSp]) (by simp) ?_
          rintro av X κ ⟨rfl, rfl, rfl⟩
          generalize hK : VS _ _ _ = KK; simp (maxSteps := 1000000) [hF, dSp]; (try subst hK)
          repeat first
            | refine VS.seq ?_
            | (refine VS.keepAt 21 [5, 6, 7, 8, 14, 15, 17] ?_; generalize hK : VS _ _ _ = KK; (try simp); (try subst hK); refine VS.region tabOk (id := 21) [] (by kernel_rfl) ?_; generalize hK : VS _ _ _ = KK; simp (maxSteps := 1000000) [hF]; (try subst hK); try (refine VS.keep [5, 6, 7, 8, 14, 15, 17, 19] ?_; generalize hK : VS _ _ _ = KK; simp; (try subst hK)))
          refine (shape_ok S o).call [(0, [])] (by simp) (by simp (maxSteps := 1000000) [hF, dSp]) (by simp (maxSteps := 1000000) [hF, dSp]) (by simp (maxSteps := 1000000) [hF, dSp]) (by simp) ?_
          rintro av X κ ⟨rfl, rfl, rfl⟩
          generalize hK : VS _ _ _ = KK; simp (maxSteps := 1000000) [hF, dSp]; (try subst hK)
          repeat first
            | refine VS.seq ?_
            | (refine VS.keepAt 22 [5, 6, 7, 8, 14, 15, 17, 19] ?_; generalize hK : VS _ _ _ = KK; (try simp); (try subst hK); refine VS.region tabOk (id := 22) [] (by kernel_rfl) ?_; generalize hK : VS _ _ _ = KK; simp (maxSteps := 1000000) [hF]; (try subst hK); try (refine VS.keep [5, 6, 7, 8, 14, 15, 17, 19, 21] ?_; generalize hK : VS _ _ _ = KK; simp; (try subst hK)))
          refine (shape_ok S o).call [(3, [])] (by simp) (by simp (maxSteps := 1000000) [hF, dSp]) (by simp (maxSteps := 1000000) [hF, dSp]) (by simp (maxSteps := 1000000) [hF, dSp]) (by simp) ?_
          rintro av X κ ⟨rfl, rfl, rfl⟩
          generalize hK : VS _ _ _ = KK; simp (maxSteps := 1000000) [hF, dSp]; (try subst hK)
          repeat first
            | refine VS.seq ?_
            | (refine VS.keepAt 23 [5, 6, 7, 8, 14, 15, 17, 19, 21] ?_; generalize hK : VS _ _ _ = KK; (try simp); (try subst hK); refine VS.region tabOk (id := 23) [(4, 103)] (by kernel_rfl) ?_; generalize hK : VS _ _ _ = KK; simp (maxSteps := 1000000) [hF]; (try subst hK); try (refine VS.keep [5, 6, 7, 8, 14, 107] ?_; generalize hK : VS _ _ _ = KK; simp; (try subst hK)))
          refine (same_nil).call [] (by simp) (by simp (maxSteps := 1000000) [hF]) (by simp (maxSteps := 1000000) [hF]) (by simp (maxSteps := 1000000) [hF]) (by simp) ?_
          rintro av X κ ⟨rfl, rfl, rfl⟩
          generalize hK : VS _ _ _ = KK; simp (maxSteps := 1000000) [hF]; (try subst hK)
          repeat first
            | refine VS.skip ?_
            | refine VS.nil ?_
            | refine blockN_normal ?_
            | refine loopN_normal ?_
            | (refine VS.keepAt 18 [5, 6, 7, 8, 14] ?_; generalize hK : VS _ _ _ = KK; (try simp); (try subst hK); refine VS.region tabOk (id := 18) [] (by kernel_rfl) ?_; generalize hK : VS _ _ _ = KK; simp (maxSteps := 1000000) [hF]; (try subst hK); try (refine VS.keep [5, 6, 7, 8, 14] ?_; generalize hK : VS _ _ _ = KK; simp; (try subst hK)))
            | (refine VS.cond ?_; generalize hK1 : VS _ _ _ = KK1; generalize hK2 : VS _ _ _ = KK2; simp (maxSteps := 1000000) [hF]; (try subst hK1); (try subst hK2))
          refine nextK.of [5, 6, 7, 8, 14] [0, 1, 2, 3] (m - 1) (by omega) (by simp [hF]) ?_
          refine ⟨o + 1, by omega, ?_⟩
          simp [dSp]
          exact IntWalk.i64_in _ (by omega)
        | true =>
          have hj : o < S.objs.length := by simp [hasB] at hb; omega
          have hnl := (hwf.ob _ (List.getElem_mem hj)).names_len
          repeat first
            | refine VS.seq ?_
            | refine VS.skip ?_
            | refine VS.block ?_
            | (refine VS.keepAt 19 [5, 6, 7, 8, 14] ?_; generalize hK : VS _ _ _ = KK; (try simp); (try subst hK); refine VS.region tabOk (id := 19) [] (by kernel_rfl) ?_; generalize hK : VS _ _ _ = KK; simp (maxSteps := 1000000) [hF]; (try subst hK); try (refine VS.keep [5, 6, 7, 8, 14, 15] ?_; generalize hK : VS _ _ _ = KK; simp; (try subst hK)))
          refine (names1_yes S hwf (by omega) o hb).call [(0, [])] (by simp) (by simp (maxSteps := 1000000) [hF, dSp, obAt_eq hj]) (by simp (maxSteps := 1000000) [hF, dSp, obAt_eq hj]) (by simp (maxSteps := 1000000) [hF, dSp, obAt_eq hj]) (by simp) ?_
          rintro av X κ ⟨rfl, rfl, rfl⟩
          generalize hK : VS _ _ _ = KK; simp (maxSteps := 1000000) [hF, dSp, obAt_eq hj]; (try subst hK)
          repeat first
            | refine VS.seq ?_
            | (refine VS.keepAt 20 [5, 6, 7, 8, 14, 15] ?_; generalize hK : VS _ _ _ = KK; (try simp); (try subst hK); refine VS.region tabOk (id := 20) [] (by kernel_rfl) ?_; generalize hK : VS _ _ _ = KK; simp (maxSteps := 1000000) [hF]; (try subst hK); try (refine VS.keep [5, 6, 7, 8, 14, 15, 17] ?_; generalize hK : VS _ _ _ = KK; simp; (try subst hK)))
          refine (names1_yes S hwf (by omega) o hb).call [(3, [])] (by simp) (by simp (maxSteps := 1000000) [hF, dSp, obAt_eq hj]) (by simp (maxSteps := 1000000) [hF, dSp, obAt_eq hj]) (by simp (maxSteps := 1000000) [hF, dSp, obAt_eq hj]) (by simp) ?_
          rintro av X κ ⟨rfl, rfl, rfl⟩
          generalize hK : VS _ _ _ = KK; simp (maxSteps := 1000000) [hF, dSp, obAt_eq hj]; (try subst hK)
          repeat first
            | refine VS.seq ?_
            | (refine VS.keepAt 21 [5, 6, 7, 8, 14, 15, 17] ?_; generalize hK : VS _ _ _ = KK; (try simp); (try subst hK); refine VS.region tabOk (id := 21) [] (by kernel_rfl) ?_; generalize hK : VS _ _ _ = KK; simp (maxSteps := 1000000) [hF]; (try subst hK); try (refine VS.keep [5, 6, 7, 8, 14, 15, 17, 19] ?_; generalize hK : VS _ _ _ = KK; simp; (try subst hK)))
          refine (shape_ok S o).call [(0, [])] (by simp) (by simp (maxSteps := 1000000) [hF, dSp]) (by simp (maxSteps := 1000000) [hF, dSp]) (by simp (maxSteps := 1000000) [hF, dSp]) (by simp) ?_
          rintro av X κ ⟨rfl, rfl, rfl⟩
          generalize hK : VS _ _ _ = KK; simp (maxSteps := 1000000) [hF, dSp]; (try subst hK)
          repeat first
            | refine VS.seq ?_
            | (refine VS.keepAt 22 [5, 6, 7, 8, 14, 15, 17, 19] ?_; generalize hK : VS _ _ _ = KK; (try simp); (try subst hK); refine VS.region tabOk (id := 22) [] (by kernel_rfl) ?_; generalize hK : VS _ _ _ = KK; simp (maxSteps := 1000000) [hF]; (try subst hK); try (refine VS.keep [5, 6, 7, 8, 14, 15, 17, 19, 21] ?_; generalize hK : VS _ _ _ = KK; simp; (try subst hK)))
          refine (shape_ok S o).call [(3, [])] (by simp) (by simp (maxSteps := 1000000) [hF, dSp]) (by simp (maxSteps := 1000000) [hF, dSp]) (by simp (maxSteps := 1000000) [hF, dSp]) (by simp) ?_
          rintro av X κ ⟨rfl, rfl, rfl⟩
          generalize hK : VS _ _ _ = KK; simp (maxSteps := 1000000) [hF, dSp]; (try subst hK)
          repeat first
            | refine VS.seq ?_
            | (refine VS.keepAt 23 [5, 6, 7, 8, 14, 15, 17, 19, 21] ?_; generalize hK : VS _ _ _ = KK; (try simp); (try subst hK); refine VS.region tabOk (id := 23) [(4, 103)] (by kernel_rfl) ?_; generalize hK : VS _ _ _ = KK; simp (maxSteps := 1000000) [hF]; (try subst hK); try (refine VS.keep [5, 6, 7, 8, 14, 107] ?_; generalize hK : VS _ _ _ = KK; simp; (try subst hK)))
          refine (same_ok true true false false S.objs[o].names S.objs[o].names (by omega)).call [(4, []), (5, [])] (by simp) (by simp (maxSteps := 1000000) [hF]) (by simp (maxSteps := 1000000) [hF]) (by simp (maxSteps := 1000000) [hF]) (by simp) ?_
          rintro av X κ ⟨rfl, rfl, rfl⟩
          generalize hK : VS _ _ _ = KK; simp (maxSteps := 1000000) [hF]; (try subst hK)
          repeat first
            | refine VS.skip ?_
            | refine VS.nil ?_
            | refine blockN_normal ?_
            | refine loopN_normal ?_
            | (refine VS.keepAt 18 [5, 6, 7, 8, 14] ?_; generalize hK : VS _ _ _ = KK; (try simp); (try subst hK); refine VS.region tabOk (id := 18) [] (by kernel_rfl) ?_; generalize hK : VS _ _ _ = KK; simp (maxSteps := 1000000) [hF]; (try subst hK); try (refine VS.keep [5, 6, 7, 8, 14] ?_; generalize hK : VS _ _ _ = KK; simp; (try subst hK)))
            | (refine VS.cond ?_; generalize hK1 : VS _ _ _ = KK1; generalize hK2 : VS _ _ _ = KK2; simp (maxSteps := 1000000) [hF]; (try subst hK1); (try subst hK2))
          refine nextK.of [5, 6, 7, 8, 14] [0, 1, 2, 3] (m - 1) (by omega) (by simp [hF]) ?_
          refine ⟨o + 1, by omega, ?_⟩
          simp [dSp]
          exact IntWalk.i64_in _ (by omega)
      · repeat first
          | refine VS.seq ?_
          | refine VS.exit ?_
          | (refine VS.keepAt 25 [5, 6, 7, 8] ?_; generalize hK : VS _ _ _ = KK; (try simp); (try subst hK); refine VS.region tabOk (id := 25) [(5, 113), (12, 120)] (by kernel_rfl) ?_; generalize hK : VS _ _ _ = KK; simp (maxSteps := 1000000) [hF]; (try subst hK); try (refine VS.keep [4] ?_; generalize hK : VS _ _ _ = KK; simp; (try subst hK)))
        refine (shapes_ok S).call [(0, [])] (by simp) (by simp (maxSteps := 1000000) [hF, dSp]) (by simp (maxSteps := 1000000) [hF, dSp]) (by simp (maxSteps := 1000000) [hF, dSp]) (by simp) ?_
        rintro av X κ ⟨rfl, rfl, rfl⟩
        generalize hK : VS _ _ _ = KK; simp (maxSteps := 1000000) [hF, dSp]; (try subst hK)
        refine (shapes_ok S).call [(3, [])] (by simp) (by simp (maxSteps := 1000000) [hF, dSp]) (by simp (maxSteps := 1000000) [hF, dSp]) (by simp (maxSteps := 1000000) [hF, dSp]) (by simp) ?_
        rintro av X κ ⟨rfl, rfl, rfl⟩
        generalize hK : VS _ _ _ = KK; simp (maxSteps := 1000000) [hF, dSp]; (try subst hK)
        refine (shapes_ok S2).call [(1, [])] (by simp) (by simp (maxSteps := 1000000) [hF, dSp]) (by simp (maxSteps := 1000000) [hF, dSp]) (by simp (maxSteps := 1000000) [hF, dSp]) (by simp) ?_
        rintro av X κ ⟨rfl, rfl, rfl⟩
        generalize hK : VS _ _ _ = KK; simp (maxSteps := 1000000) [hF, dSp]; (try subst hK)
        refine (shapes_ok S2).call [(2, [])] (by simp) (by simp (maxSteps := 1000000) [hF, dSp]) (by simp (maxSteps := 1000000) [hF, dSp]) (by simp (maxSteps := 1000000) [hF, dSp]) (by simp) ?_
        rintro av X κ ⟨rfl, rfl, rfl⟩
        generalize hK : VS _ _ _ = KK; simp (maxSteps := 1000000) [hF, dSp]; (try subst hK)
        refine (sane_ok).call [] (by simp) (by simp (maxSteps := 1000000) [hF]) (by simp (maxSteps := 1000000) [hF]) (by simp (maxSteps := 1000000) [hF]) (by simp) ?_
        rintro av X κ ⟨rfl, rfl, rfl⟩
        generalize hK : VS _ _ _ = KK; simp (maxSteps := 1000000) [hF]; (try subst hK)
        try refine VS.ret ?_
        repeat first | refine blockN_ret ?_ | refine loopN_ret ?_
        refine endK.of [4] [] [] (by simp [hF]) (by simp [covers, mpre]) ?_
        simp [hF, retK]
end Go.Proofs.Ythcndkpkkaphoaa

/- From what a row's argument reads as to trees that cannot change. -/
namespace Go.Vc
set_option linter.all false
open T (hdr blk)

/-- The blocks that are there. -/
abbrev allB (w : World) : Nat → Prop := fun b => b < w.heap.size

/-- What a reading of a type shows: a tree that cannot change, of 'z' cells, with such a content. -/
def Reads (P : Program) (t : TypeId) (z : Nat) (good : D → Prop) : Prop :=
  ∀ (H : Type) (enc : TypeId × Value → H) (w : World) (fuel : Nat) (cs : List Value) (x : DataW H × List MemPlace), DataW.trod enc P w 0 (fun _ => true) true fuel t cs = some x →
    ∃ g : G, T.Holds w.heap (allB w) g ∧ g.free = true ∧ g.cells = cs ∧ g.width = z ∧ good g.erase

theorem reads_int {P : Program} {t : TypeId} {k : IntKind} (ht : P.underlying t = some (.int k)) : Reads P t 1 fun d => ∃ n, d = .val (.int k n) := fun H enc w fuel cs x h => by
  obtain ⟨n, rfl, _, _⟩ := DataW.trod_int ht h
  exact ⟨.val (.int k n), rfl, rfl, rfl, rfl, n, rfl⟩
theorem reads_str {P : Program} {t : TypeId} (ht : P.underlying t = some .string) : Reads P t 1 fun d => ∃ s, d = .val (.string s) := fun H enc w fuel cs x h => by
  obtain ⟨s, rfl, _, _⟩ := DataW.trod_string ht h
  exact ⟨.val (.string s), rfl, rfl, rfl, rfl, s, rfl⟩
theorem reads_bool {P : Program} {t : TypeId} (ht : P.underlying t = some .bool) : Reads P t 1 fun d => ∃ b, d = .val (.bool b) := fun H enc w fuel cs x h => by
  obtain ⟨b, rfl, _⟩ := DataW.trod_bool ht h
  exact ⟨.val (.bool b), rfl, rfl, rfl, rfl, b, rfl⟩

/-- The fields of a struct, one behind the other. -/
def FieldsRead (P : Program) : List Field → List (Nat × (D → Prop)) → Nat → Prop
  | [], [], _ => True
  | f :: fs, (z, good) :: r, o => Reads P f.type z good ∧ P.cellsOf f.type = z ∧ f.offset = o ∧ FieldsRead P fs r (o + z)
  | _, _, _ => False
def fieldsGood : List (Nat × (D → Prop)) → D → Prop
  | [], d => d = .nil
  | (_, good) :: r, d => ∃ a t, d = .cons a t ∧ good a ∧ fieldsGood r t
def fieldsSize : List (Nat × (D → Prop)) → Nat
  | [] => 0
  | (z, _) :: r => z + fieldsSize r

theorem reads_struct {P : Program} {t : TypeId} {fs : Array Field} (ht : P.underlying t = some (.struct fs)) {gs : List (Nat × (D → Prop))} (hf : FieldsRead P fs.toList gs 0) (hz : P.cellsOf t = fieldsSize gs) :
    Reads P t (fieldsSize gs) fun d => ∃ s, d = .agg s ∧ fieldsGood gs s := fun H enc w fuel cs x h => by
  obtain ⟨xs, n, _, _, hl, hlen, he⟩ := DataW.trod_struct ht h
  have each : ∀ f ∈ fs.toList, ∃ y, DataW.trod enc P w 0 (fun _ => true) true n f.type ((cs.drop f.offset).take (P.cellsOf f.type)) = some y := fun f hm => by
    obtain ⟨i, hi, rfl⟩ := List.getElem_of_mem hm
    have h1 := he i fs[i] (by simp at hi; simp [hi])
    rw [List.getElem?_eq_getElem (by simp at hi; omega)] at h1
    exact ⟨_, h1⟩
  have key : ∀ (l : List Field) (gs : List (Nat × (D → Prop))) (o : Nat), FieldsRead P l gs o → (∀ f ∈ l, f ∈ fs.toList) → cs.length = o + fieldsSize gs →
      ∃ s : G, T.Holds w.heap (allB w) s ∧ s.free = true ∧ s.cells = cs.drop o ∧ s.width = fieldsSize gs ∧ fieldsGood gs s.erase := by
    intro l
    induction l with
    | nil =>
      intro gs o h1 _ h2
      cases gs with
      | nil => exact ⟨.nil, trivial, rfl, by simp only [fieldsSize] at h2; simp [T.cells, h2], rfl, rfl⟩
      | cons _ _ => exact h1.elim
    | cons f l ih =>
      intro gs o h1 hm h2
      cases gs with
      | nil => exact h1.elim
      | cons p r =>
        obtain ⟨z, good⟩ := p
        obtain ⟨k1, k2, k3, k4⟩ := h1
        simp only [fieldsSize] at h2
        obtain ⟨s, s1, s2, s3, s4, s5⟩ := ih r (o + z) k4 (fun f hf => hm f (by simp [hf])) (by omega)
        obtain ⟨y, hy⟩ := each f (hm f (by simp))
        obtain ⟨g, g1, g2, g3, g4, g5⟩ := k1 H enc w n _ y hy
        refine ⟨.cons g s, ⟨g1, s1⟩, by simp [T.free, g2, s2], ?_, by simp [T.width, g4, s4, fieldsSize], _, _, rfl, g5, s5⟩
        simp only [T.cells, g3, s3, k2, k3]
        rw [← List.drop_drop, List.take_append_drop]
  obtain ⟨s, s1, s2, s3, s4, s5⟩ := key fs.toList gs 0 hf (fun _ h => h) (by rw [hl, hz]; omega)
  exact ⟨.agg s, s1, s2, by simpa [T.cells] using s3, s4, _, rfl, s5⟩

theorem erase_agg {g : G} {s : D} (h : g.erase = .agg s) : ∃ s', g = .agg s' ∧ s'.erase = s := by
  cases g <;> simp only [T.erase] at h <;> cases h
  exact ⟨_, rfl, rfl⟩
theorem erase_cons {g : G} {a t : D} (h : g.erase = .cons a t) : ∃ a' t', g = .cons a' t' ∧ a'.erase = a ∧ t'.erase = t := by
  cases g <;> simp only [T.erase] at h <;> cases h
  exact ⟨_, _, rfl, rfl, rfl⟩
theorem erase_val {g : G} {v : Value} (h : g.erase = .val v) : g = .val v := by
  cases g <;> simp only [T.erase] at h <;> cases h
  rfl
theorem erase_nil {g : G} (h : g.erase = .nil) : g = .nil := by
  cases g <;> simp only [T.erase] at h <;> cases h
  rfl

theorem map_of {α β : Type} {f : β → α} : ∀ {l : List α}, (∀ x ∈ l, ∃ y, x = f y) → ∃ ys : List β, l = ys.map f
  | [], _ => ⟨[], rfl⟩
  | x :: l, h => by
    obtain ⟨y, hy⟩ := h x (by simp)
    obtain ⟨ys, hys⟩ := map_of (l := l) (f := f) fun x hx => h x (List.mem_cons_of_mem _ hx)
    exact ⟨y :: ys, by rw [hy, hys]; rfl⟩

theorem cells?_at {w : World} {a : Addr} {n : Nat} {cs : List Value} (h : w.cells? 0 a n = some cs) : cs.length = n ∧ ∀ r v, cs[r]? = some v → w.cell? (a.add r) = some v := by
  obtain ⟨_, h1, h2⟩ := World.cells?_some h
  refine ⟨h1, fun r v hv => ?_⟩
  have hr : r < n := by rw [← h1]; exact (List.getElem?_eq_some_iff.1 hv).1
  have := h2 r hr
  rw [this, hv]

/-- The elements of a slice, one behind the other. -/
theorem reads_elems {P : Program} {e : TypeId} {z : Nat} {good : D → Prop} (he : Reads P e z good) {H : Type} {enc : TypeId × Value → H} {w : World} {n : Nat} {at_ : Nat → List Value} : ∀ (len i0 : Nat),
    (∀ i, i < len → ∃ y, DataW.trod enc P w 0 (fun _ => true) true n e (at_ (i0 + i)) = some y) →
    ∃ s : G, ∃ l : List D, T.Holds w.heap (allB w) s ∧ s.free = true ∧ s.uni z ∧ s.len = len ∧ s.erase = sq l ∧ l.length = len ∧ (∀ d ∈ l, good d) ∧ s.cells = ((List.range len).map fun i => at_ (i0 + i)).flatten
  | 0, i0, _ => ⟨.nil, [], trivial, rfl, trivial, rfl, rfl, rfl, by simp, rfl⟩
  | len + 1, i0, h => by
    obtain ⟨y, hy⟩ := h 0 (by omega)
    obtain ⟨g, g1, g2, g3, g4, g5⟩ := he H enc w n _ y hy
    obtain ⟨s, l, s1, s2, s3, s4, s5, s6, s7, s8⟩ := reads_elems he len (i0 + 1) fun i hi => by
      have := h (i + 1) (by omega)
      rwa [show i0 + (i + 1) = i0 + 1 + i by omega] at this
    refine ⟨.cons g s, g.erase :: l, ⟨g1, s1⟩, by simp [T.free, g2, s2], ⟨g4, s3⟩, by simp [T.len, s4], by simp [T.erase, sq, s5], by simp [s6], fun d hd => ?_, ?_⟩
    · rcases List.mem_cons.1 hd with rfl | hd
      · exact g5
      · exact s7 d hd
    · rw [List.range_succ_eq_map]
      simp only [T.cells, g3, s8, List.map_cons, List.flatten_cons, List.map_map, Nat.add_zero]
      congr 3
      funext i
      simp only [Function.comp]
      congr 1; omega

theorem flat_at {α : Type} {z : Nat} (hz : 0 < z) : ∀ (l : List (List α)) (_ : ∀ c ∈ l, c.length = z) (j : Nat) (v : α), l.flatten[j]? = some v → ∃ c, l[j / z]? = some c ∧ c[j % z]? = some v
  | [], _, j, v, h => by simp at h
  | c :: l, hl, j, v, h => by
    have hc := hl c (by simp)
    simp only [List.flatten_cons] at h
    rcases Nat.lt_or_ge j z with hj | hj
    · rw [List.getElem?_append_left (by omega)] at h
      exact ⟨c, by rw [Nat.div_eq_of_lt hj]; rfl, by rw [Nat.mod_eq_of_lt hj]; exact h⟩
    · rw [List.getElem?_append_right (by omega), hc] at h
      obtain ⟨c', h1, h2⟩ := flat_at hz l (fun c hc => hl c (by simp [hc])) (j - z) v h
      refine ⟨c', ?_, ?_⟩
      · rw [show j / z = (j - z) / z + 1 by rw [Nat.div_eq_sub_div hz hj]]; simpa using h1
      · rw [Nat.mod_eq_sub_mod hj]; exact h2

/-- A slice that is an argument: it cannot change. -/
theorem imm_of_trod {P : Program} {t e : TypeId} {z : Nat} {good : D → Prop} (ht : P.underlying t = some (.slice e)) (he : Reads P e z good) (hc : P.cellsOf e = z) (hz : 0 < z) {H : Type} {enc : TypeId × Value → H} {w : World}
    {r : Reach} {b0 : Nat} {v : Value} {d : DataW H} {ps : List MemPlace} (hv : Value.okWide P w r b0 t v) (h : DataW.Trod enc P w 0 (fun _ => true) true t v d ps) :
    ∃ l : List D, (∀ d ∈ l, good d) ∧ l.length ≤ 2 ^ 63 - 1 ∧ Rl w.heap (allB w) [] (.imm z (sq l) false) true [v] := by
  obtain ⟨fuel, h⟩ := h
  have hok : Cell.ok P w r b0 t v := by
    unfold Value.okWide at hv
    rw [ht] at hv
    simp only [Cell.okWide, ht] at hv
    exact hv
  have hform : v = .slice none 0 0 ∨ ∃ a len cap, v = .slice (some a) len cap ∧ len ≤ cap ∧ (cap : Int) ≤ IntKind.i64.max ∧ a.spot = none := by
    unfold Cell.ok at hok
    rw [ht] at hok
    split at hok <;> try exact hok.elim
    all_goals first
      | (rename_i heq; cases heq; done)
      | skip
    · exact .inl rfl
    · exact .inr ⟨_, _, _, rfl, hok.1, hok.2.1, hok.2.2.2.1⟩
  rcases hform with rfl | ⟨a, len, cap, rfl, hlc, hcm, hspot⟩
  · exact ⟨[], by simp, by simp, _, rfl, .nil, rfl, ⟨trivial, trivial, fun _ => rfl, rfl, rfl, rfl⟩, fun h => by cases h⟩
  · obtain ⟨b, o, sp⟩ := a
    simp only at hspot
    subst hspot
    have hcm' : cap ≤ 2 ^ 63 - 1 := by
      have : IntKind.i64.max = 2 ^ 63 - 1 := by decide
      omega
    rcases cap with _ | cap
    · obtain rfl : len = 0 := by omega
      exact ⟨[], by simp, by simp, _, rfl, .nil, rfl, ⟨trivial, trivial, fun _ => rfl, rfl, rfl, rfl⟩, fun h => by cases h⟩
    · rcases DataW.trod_slice ht h with ⟨h0, _⟩ | ⟨a, len', cap', elems, rest, n, _, h0, _, hb, hl, hm, hlen, hel, hsp, _⟩
      · simp [Value.cells] at h0
      · simp only [Value.cells, List.cons.injEq, Value.slice.injEq, Option.some.injEq, and_true] at h0
        obtain ⟨rfl, rfl, rfl⟩ := h0
        obtain ⟨hsp1, hsp2⟩ := hsp rfl
        have hadd : ∀ k, (⟨b, o, none⟩ : Addr).add k = ⟨b, o + k, none⟩ := fun k => by unfold Addr.add; split <;> simp_all
        rw [hc] at hel hsp2
        -- every element reads
        have each : ∀ i, i < cap + 1 → ∃ cs, w.cells? 0 ((⟨b, o, none⟩ : Addr).add (i * z)) z = some cs ∧ ∃ y, DataW.trod enc P w 0 (fun _ => true) true n e cs = some y := fun i hi => by
          by_cases h1 : i < len
          · have h2 := hel i h1
            rw [List.getElem?_eq_getElem (by omega)] at h2
            obtain ⟨cs, h3, h4⟩ := Option.bind_eq_some_iff.1 h2
            exact ⟨cs, h3, _, h4⟩
          · have h2 := hsp2 (i - len) (by omega)
            rw [List.getElem?_eq_getElem (by omega), show len + (i - len) = i by omega] at h2
            obtain ⟨cs, h3, h4⟩ := Option.bind_eq_some_iff.1 h2
            exact ⟨cs, h3, _, h4⟩
        -- the row
        obtain ⟨csl, hl1, _⟩ := each cap (by omega)
        obtain ⟨hl2, hl3⟩ := cells?_at hl1
        have hl4 := hl3 (z - 1) _ (List.getElem?_eq_getElem (by omega))
        rw [hadd] at hl4
        have hadd2 : ∀ (o' k : Nat), (⟨b, o', none⟩ : Addr).add k = ⟨b, o' + k, none⟩ := fun o' k => by unfold Addr.add; split <;> simp_all
        rw [hadd2] at hl4
        obtain ⟨row, e', fr, hrow⟩ : ∃ row e' fr, w.heap[b]? = some (.cells row e' fr) := by
          unfold World.cell? at hl4
          split at hl4
          · rename_i c _ _ heq; exact ⟨_, _, _, heq⟩
          · cases hl4
        have cell : ∀ k v, w.cell? ⟨b, k, none⟩ = some v → row[k]? = some v := fun k v hk => by
          unfold World.cell? at hk
          simp only [hrow] at hk
          simpa using hk
        have hblt : b < w.heap.size := by
          rcases Nat.lt_or_ge b w.heap.size with h' | h'
          · exact h'
          · rw [Array.getElem?_eq_none h'] at hrow; cases hrow
        have hsz : o + (cap + 1) * z ≤ row.size := by
          have h5 := cell _ _ hl4
          have h6 := (Array.getElem?_eq_some_iff.1 h5).1
          rw [Nat.add_mul]; omega
        obtain ⟨s, l, s1, s2, s3, s4, s5, s6, s7, s8⟩ := reads_elems (enc := enc) (w := w) (n := n) (at_ := fun i => (w.cells? 0 ((⟨b, o, none⟩ : Addr).add (i * z)) z).getD []) he len 0 fun i hi => by
          obtain ⟨cs, h1, h2⟩ := each (0 + i) (by omega)
          rw [h1]; exact h2
        refine ⟨l, s7, by omega, _, rfl, s, s5, ⟨s1, s3, fun _ => s2, rfl, s4.symm, hlc, hcm', fun _ => hblt, row, e', fr, hrow, (fun h => by cases h), hsz, fun j v hj => ?_⟩, fun h => by cases h⟩
        rw [s8] at hj
        obtain ⟨c, c1, c2⟩ := flat_at hz _ (fun c hcm => by
          obtain ⟨i, hi, rfl⟩ := List.mem_map.1 hcm
          obtain ⟨cs, h1, _⟩ := each (0 + i) (by have := List.mem_range.1 hi; omega)
          rw [h1]; exact (cells?_at h1).1) j v hj
        rw [List.getElem?_map] at c1
        cases hr : (List.range len)[j / z]? with
        | none => rw [hr] at c1; cases c1
        | some i =>
          rw [hr] at c1
          obtain ⟨hi1, hi2⟩ := List.getElem?_eq_some_iff.1 hr
          simp only [List.length_range] at hi1
          simp only [List.getElem_range] at hi2
          subst hi2
          obtain ⟨cs, h1, _⟩ := each (0 + j / z) (by omega)
          simp only [Option.map_some, Option.some.injEq, h1, Option.getD_some] at c1
          subst c1
          have h2 := (cells?_at h1).2 _ _ c2
          rw [hadd, hadd2] at h2
          have h3 := cell _ _ h2
          rw [← h3]
          congr 1
          have := Nat.div_add_mod j z
          rw [Nat.mul_comm] at this
          simp only [Nat.zero_add]
          omega
end Go.Vc
