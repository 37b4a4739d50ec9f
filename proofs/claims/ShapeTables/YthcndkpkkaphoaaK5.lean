/- Tables of the objects' own: how they are laid, and what deeds do to them. -/
import Derived.Test.YthcndkpkkaphoaaK4
import Derived.Test.YthcndkpkkaphoaaK3
import Derived.ChangeArms
import Derived.ChangeSlices
import Derived.Carry
namespace Go.Proofs.Ythcndkpkkaphoaa
set_option linter.all false
open Go.Vc Go.Proofs

def dTb (o : Ob) : D := .agg (.cons (.sl true () 1 (dStrs o.names)) (.cons (.sl true () 1 (dInts o.words)) (.cons (.val (.bool o.frozen)) .nil)))
def dTbs (l : List Ob) : D := sq (l.map dTb)
def dAll (l : List Ob) : D := .box true () (.sl true () 3 (dTbs l))
@[simp high] theorem head_dAll (l : List Ob) : isHead (dAll l) = true := by rw [dAll, isHead]
@[simp] theorem dTbs_len (l : List Ob) : (dTbs l).len = l.length := by simp [dTbs]
theorem dTbs_at {l : List Ob} {i : Nat} (h : i < l.length) : (dTbs l).nth i = .agg (.cons (.sl true () 1 (dStrs l[i].names)) (.cons (.sl true () 1 (dInts l[i].words)) (.cons (.val (.bool l[i].frozen)) .nil))) := by
  rw [dTbs, sq_nth_lt (by simpa using h)]; simp; rfl
theorem dTbs_set (l : List Ob) (i : Nat) (o : Ob) : (dTbs l).setN i (.agg (.cons (.sl true () 1 (dStrs o.names)) (.cons (.sl true () 1 (dInts o.words)) (.cons (.val (.bool o.frozen)) .nil)))) = dTbs (l.set i o) := by
  simp only [dTbs, sq_setN, List.map_set]; rfl
theorem dTbs_push (l : List Ob) (o : Ob) : (dTbs l).app (.cons (.agg (.cons (.sl true () 1 (dStrs o.names)) (.cons (.sl true () 1 (dInts o.words)) (.cons (.val (.bool o.frozen)) .nil)))) .nil) = dTbs (l ++ [o]) := by
  simp only [dTbs, List.map_append, ← sq_app]; rfl
@[simp] theorem dTbs_mid (l : List Ob) : (dTbs l).mid 0 l.length = dTbs l := sq_mid_all _ _ (by simp)

section
variable {S : Sp} {j : Nat} {n : ByteArray}
theorem ask_of (hj : j < S.objs.length) (hp : 0 < S.shapes.length) (hn : namedB n = true) (c : Bool) : askOf S j n c = if c = true ∧ S.objs[j].frozen = true then 13 else 0 := by
  have hb : hasB S j = true := by simp [hasB]; omega
  have hn' : ¬ (n = noName ∨ 40 < n.size) := by simpa [namedB] using hn
  simp [askOf, hb, hn', obAt_eq hj]

/-- What a deed tells, and what it does to an object's own table. -/
theorem set_frozen (hj : j < S.objs.length) (hp : 0 < S.shapes.length) (hn : namedB n = true) (hf : S.objs[j].frozen = true) (w : Int) : setOf S j n w = (S, 13) := by
  unfold setOf; rw [ask_of hj hp hn]; simp [hf]
theorem set_old (hj : j < S.objs.length) (hp : 0 < S.shapes.length) (hn : namedB n = true) (hf : S.objs[j].frozen = false) (h : 0 ≤ posIn n S.objs[j].names) (w : Int) :
    (setOf S j n w).1.objs = S.objs.set j { S.objs[j] with words := S.objs[j].words.set (posIn n S.objs[j].names).toNat w } ∧ (setOf S j n w).2 = 0 := by
  unfold setOf; rw [ask_of hj hp hn, obAt_eq hj]; simp [hf, h, setOb]
theorem set_new (hj : j < S.objs.length) (hp : 0 < S.shapes.length) (hn : namedB n = true) (hf : S.objs[j].frozen = false) (h : ¬ 0 ≤ posIn n S.objs[j].names) (w : Int) :
    ∃ sh, (setOf S j n w).1.objs = S.objs.set j ⟨sh, S.objs[j].names ++ [n], S.objs[j].words ++ [w], S.objs[j].frozen⟩ ∧ (setOf S j n w).2 = 0 := by
  refine ⟨(stepSh S.shapes S.objs[j] n).2, ?_⟩
  unfold setOf; rw [ask_of hj hp hn, obAt_eq hj]; simp [hf, h, addOf, addOb]
theorem get_old (hj : j < S.objs.length) (hp : 0 < S.shapes.length) (hn : namedB n = true) (h : 0 ≤ posIn n S.objs[j].names) : getOf S j n = (S.objs[j].words.getD (posIn n S.objs[j].names).toNat 0, 0) := by
  have h' : ¬ posIn n S.objs[j].names < 0 := by omega
  unfold getOf; rw [ask_of hj hp hn, obAt_eq hj]; simp [h']
theorem get_none (hj : j < S.objs.length) (hp : 0 < S.shapes.length) (hn : namedB n = true) (h : ¬ 0 ≤ posIn n S.objs[j].names) : getOf S j n = (0, 3) := by
  have h' : posIn n S.objs[j].names < 0 := by omega
  unfold getOf; rw [ask_of hj hp hn, obAt_eq hj]; simp [h']
theorem del_frozen (hj : j < S.objs.length) (hp : 0 < S.shapes.length) (hn : namedB n = true) (hf : S.objs[j].frozen = true) : deleteOf S j n = (S, 0, 13) := by
  unfold deleteOf; rw [ask_of hj hp hn]; simp [hf]
theorem del_none (hj : j < S.objs.length) (hp : 0 < S.shapes.length) (hn : namedB n = true) (hf : S.objs[j].frozen = false) (h : ¬ 0 ≤ posIn n S.objs[j].names) : deleteOf S j n = (S, 0, 3) := by
  have h' : posIn n S.objs[j].names < 0 := by omega
  unfold deleteOf; rw [ask_of hj hp hn, obAt_eq hj]; simp [hf, h']
theorem del_old {N : Nat} (hS : WF S N) (hj : j < S.objs.length) (hp : 0 < S.shapes.length) (hn : namedB n = true) (hf : S.objs[j].frozen = false) (h : 0 ≤ posIn n S.objs[j].names) :
    ∃ sh, (deleteOf S j n).1.objs = S.objs.set j ⟨sh, S.objs[j].names.eraseIdx (posIn n S.objs[j].names).toNat, S.objs[j].words.eraseIdx (posIn n S.objs[j].names).toNat, S.objs[j].frozen⟩ ∧
      (deleteOf S j n).2 = (S.objs[j].words.getD (posIn n S.objs[j].names).toNat 0, 0) := by
  have ha : askOf S j n true = 0 := by rw [ask_of hj hp hn]; simp [hf]
  obtain ⟨sh, e⟩ := deleteOf_objs hS hj ha h
  refine ⟨sh, e, ?_⟩
  have h' : ¬ posIn n S.objs[j].names < 0 := by omega
  unfold deleteOf; rw [ha, obAt_eq hj]; simp [h']
theorem freeze_has (hj : j < S.objs.length) (hp : 0 < S.shapes.length) : (freezeOf S j).1.objs = S.objs.set j { S.objs[j] with frozen := true } ∧ (freezeOf S j).2 = 0 := by
  have hb : hasB S j = true := by simp [hasB]; omega
  unfold freezeOf; rw [obAt_eq hj]; simp [hb, setOb]
theorem clone_full (hj : j < S.objs.length) (hp : 0 < S.shapes.length) (h : 100 ≤ S.objs.length) : cloneOf S j = (S, 0, 9) := by
  have hb : hasB S j = true := by simp [hasB]; omega
  unfold cloneOf; simp [hb, h]
theorem clone_new (hj : j < S.objs.length) (hp : 0 < S.shapes.length) (h : ¬ 100 ≤ S.objs.length) : (cloneOf S j).1.objs = S.objs ++ [{ S.objs[j] with frozen := false }] ∧ (cloneOf S j).2 = ((S.objs.length : Int), 0) := by
  have hb : hasB S j = true := by simp [hasB]; omega
  unfold cloneOf; rw [obAt_eq hj]; simp [hb, h]
/-- A deed of an object that is not there. -/
theorem do_none {d : Deed} (h1 : 1 ≤ d.op ∧ d.op < 6) (h : hasB S d.obj = false) : doOf S d = (S, 0, 1) := by
  have h2 : d.op = 1 ∨ d.op = 2 ∨ d.op = 3 ∨ d.op = 4 ∨ d.op = 5 := by omega
  rcases h2 with h2 | h2 | h2 | h2 | h2 <;> simp [doOf, h2, setOf, getOf, deleteOf, freezeOf, cloneOf, askOf, h]
end
end Go.Proofs.Ythcndkpkkaphoaa

/- A deed with tables. -/
namespace Go.Proofs.Ythcndkpkkaphoaa
set_option linter.all false
open Go.Vc Go.Proofs
set_option linter.unusedSimpArgs false
set_option maxRecDepth 100000
set_option maxHeartbeats 4000000
attribute [local irreducible] CallW EqK

/-- Where a name is, among the first 'k'. -/
def atOf (n : ByteArray) (l : List ByteArray) (k : Nat) : Int := if 0 ≤ posIn n l ∧ posIn n l < k then posIn n l else -1

theorem atOf_eq {n : ByteArray} {l : List ByteArray} (hnd : l.Nodup) {k : Nat} (hk : k < l.length) (h : l[k] = n) : atOf n l (k + 1) = k := by
  have e := posIn_nodup hnd hk
  rw [h] at e
  unfold atOf
  rw [e, if_pos ⟨by omega, by omega⟩]
theorem atOf_ne {n : ByteArray} {l : List ByteArray} {k : Nat} (hk : k < l.length) (h : ¬ l[k] = n) : atOf n l (k + 1) = atOf n l k := by
  unfold atOf
  by_cases h0 : 0 ≤ posIn n l
  · obtain ⟨i, hi, h1, h2⟩ := posIn_nonneg h0
    have hik : i ≠ k := fun e => h (by subst e; exact h2)
    by_cases h3 : posIn n l < k
    · rw [if_pos ⟨h0, by omega⟩, if_pos ⟨h0, h3⟩]
    · rw [if_neg (by omega), if_neg (by omega)]
  · rw [if_neg (fun h => h0 h.1), if_neg (fun h => h0 h.1)]
theorem atOf_end {n : ByteArray} {l : List ByteArray} : atOf n l l.length = posIn n l := by
  unfold atOf
  rcases posBy_cases (fun x => decide (x = n)) l with ⟨h1, _⟩ | ⟨i, hi, h1, _⟩
  · rw [if_neg]
    · exact h1.symm
    · intro h; simp only [posIn] at h; omega
  · rw [if_pos]
    simp only [posIn]; omega

theorem cut_list {α : Type} {l : List α} {i : Nat} : (((l.take i).take i ++ (l.drop (i + 1)).take (l.length - (i + 1))).take (i + (l.length - (i + 1)))) = l.eraseIdx i := by
  rw [List.take_take, Nat.min_self, List.take_of_length_le (l := l.drop (i + 1)) (by simp), List.take_of_length_le (by simp; omega), List.eraseIdx_eq_take_drop_succ]
theorem dStrs_cut {l : List ByteArray} {i : Nat} (_ : i < l.length) : ((((dStrs l).mid 0 i).mid 0 i).app ((dStrs l).mid (i + 1) (l.length - (i + 1)))).mid 0 (i + (l.length - (i + 1))) = dStrs (l.eraseIdx i) := by
  simp only [dStrs, sq_mid, sq_app, List.drop_zero, ← List.map_drop, ← List.map_take, ← List.map_append, cut_list]
theorem dInts_cut {l : List Int} {i : Nat} (_ : i < l.length) : ((((dInts l).mid 0 i).mid 0 i).app ((dInts l).mid (i + 1) (l.length - (i + 1)))).mid 0 (i + (l.length - (i + 1))) = dInts (l.eraseIdx i) := by
  simp only [dInts, sq_mid, sq_app, List.drop_zero, ← List.map_drop, ← List.map_take, ← List.map_append, cut_list]

/- cabochon/cabochonlaw20.played1 -/
end Go.Proofs.Ythcndkpkkaphoaa

/- A deed (1) with tables. -/
namespace Go.Proofs.Ythcndkpkkaphoaa
set_option linter.all false
open Go.Vc Go.Proofs
set_option linter.unusedSimpArgs false
set_option maxRecDepth 100000
set_option maxHeartbeats 4000000
attribute [local irreducible] CallW EqK

/- cabochon/cabochonlaw20.played1 -/
theorem played1_1 (S : Sp) (hp : 0 < S.shapes.length) {N : Nat} (hS : WF S N) (hN : N < 1000000) (hG : Good S) (d : Deed) (j : Nat) (hj : j < S.objs.length) (hd : d.obj = j) (hn : namedB d.name = true) (hop : d.op = 1) :
    Meets Try.prog 26 [dAll S.objs] (.cons (.ptr 0 [.d]) (.cons (avDeed d) (.cons (avInt (doOf S d).2.1) (.cons (avInt (doOf S d).2.2) .nil))))
    fun av X κ => av = .val (.bool true) ∧ X = [dAll (doOf S d).1.objs] ∧ κ = [(0, [.d])] := by
  obtain ⟨op, ob, name, word⟩ := d
  simp only at hd hn hop
  subst hd
  subst hop
  have ho := hS.ob _ (List.getElem_mem hj)
  have hnl := ho.names_len
  have hwl := ho.1
  have hno := hS.no
  obtain ⟨hnd, _⟩ := hG _ (List.getElem_mem hj)
  unfold avDeed
  generalize hr : doOf S ⟨1, j, name, word⟩ = r
  obtain ⟨S', n, e⟩ := r
  simp only
  refine Meets.of_vs tabOk Try.func26 (body := ?_) ?_ (by kernel_rfl) Try.ntmps26 (rs := [.tmp 8]) (by kernel_rfl) rfl (by simp [AV.len]) (by simp only [envOf]; exact rfl) ?_
  rotate_left
  · rfl
  intro w0 I0 F0 hF
  repeat first
    | refine VS.seq ?_
    | refine VS.block ?_
    | (refine VS.keepAt 0 [0, 1, 2, 3] ?_; generalize hK : VS _ _ _ = KK; (try simp); (try subst hK); refine VS.region tabOk (id := 0) [] (by kernel_rfl) ?_; generalize hK : VS _ _ _ = KK; simp (maxSteps := 1000000) [hF, dAll, dTbs_at hj, hj]; (try subst hK); try (refine VS.keep [0, 2, 3, 5] ?_; generalize hK : VS _ _ _ = KK; simp; (try subst hK)))
    | (refine VS.keepAt 1 [0, 2, 3, 5] ?_; generalize hK : VS _ _ _ = KK; (try simp); (try subst hK); refine VS.drawn tabOk mixedOk (id := 1) [] [⟨0, 1, 16384, 5⟩, ⟨1, 16384, 32768, 5⟩, ⟨2, 32768, 65536, 6⟩, ⟨0, 32, 131072, 5⟩, ⟨8, 131072, 262144, 6⟩, ⟨20, 327680, 524288, 5⟩, ⟨63, 524288, 512, 5⟩] (.take 0 (.take 1 (.take 2 (.take 3 (.take 4 (.take 5 (.take 6 (.done)))))))) (.run [0, 1, 2, 3, 4, 5, 6] (.done)) (by kernel_rfl) (by kernel_rfl) (by kernel_rfl) ?_; generalize hK : VS _ _ _ = KK; simp only [opsVc_run, opsVc_both, opsVc_chk, opsVc_done, opsVc_yes, pick_cons, pick_nil, List.getElem?_cons_zero, List.getElem?_cons_succ]; simp (maxSteps := 1000000) [hF, dAll, dTbs_at hj, hj]; (try subst hK); try (refine VS.keep [0, 2, 3, 5, 9] ?_; generalize hK : VS _ _ _ = KK; simp; (try subst hK)))
    | (refine VS.keepAt 2 [0, 2, 3, 5, 9] ?_; generalize hK : VS _ _ _ = KK; (try simp); (try subst hK); refine VS.region tabOk (id := 2) [] (by kernel_rfl) ?_; generalize hK : VS _ _ _ = KK; simp (maxSteps := 1000000) [hF, dAll, dTbs_at hj, hj]; (try subst hK); try (refine VS.keep [0, 2, 3, 5, 9, 10] ?_; generalize hK : VS _ _ _ = KK; simp; (try subst hK)))
    | (refine VS.keepAt 3 [0, 2, 3, 5, 9, 10] ?_; generalize hK : VS _ _ _ = KK; (try simp); (try subst hK); refine VS.region tabOk (id := 3) [] (by kernel_rfl) ?_; generalize hK : VS _ _ _ = KK; simp (maxSteps := 1000000) [hF, dAll, dTbs_at hj, hj]; (try subst hK); try (refine VS.keep [0, 2, 3, 5, 9, 10, 11] ?_; generalize hK : VS _ _ _ = KK; simp; (try subst hK)))
  refine VS.rounds (fun m st => ∃ (k : Nat), k + m = S.objs[j].names.length ∧
    st = ⟨[(0, .ptr 0 [.d]), (2, avInt n), (3, avInt e), (5, .ptr 1 [.d]), (9, .ptr 0 [.d, .i j]), (10, avInt (atOf name S.objs[j].names k)), (11, avInt k)],
      [dAll S.objs, .box true () (dDeed ⟨1, j, name, word⟩)], [], []⟩) ⟨S.objs[j].names.length, 0, by omega, ?_⟩ ?_
  · have h0 : atOf name S.objs[j].names 0 = -1 := by unfold atOf; rw [if_neg (by omega)]
    simp [dAll, dDeed, h0]
  rintro m st ⟨k, hkm, rfl⟩
  repeat first
    | refine VS.seq ?_
    | (refine VS.keepAt 4 [0, 2, 3, 5, 9, 10, 11] ?_; generalize hK : VS _ _ _ = KK; (try simp); (try subst hK); refine VS.region tabOk (id := 4) [] (by kernel_rfl) ?_; generalize hK : VS _ _ _ = KK; simp (maxSteps := 1000000) [hF, dAll, dTbs_at hj, hj]; (try subst hK); try (refine VS.keep [0, 2, 3, 5, 9, 10, 11, 26] ?_; generalize hK : VS _ _ _ = KK; simp; (try subst hK)))
    | (refine VS.cond ?_; generalize hK1 : VS _ _ _ = KK1; generalize hK2 : VS _ _ _ = KK2; simp (maxSteps := 1000000) [hF, dAll, dTbs_at hj, hj]; (try subst hK1); (try subst hK2))
  refine ⟨fun hlt => ?_, fun hge => ?_⟩
  · have hk : k < S.objs[j].names.length := by omega
    have hn1 := dStrs_nth hk
    repeat first
      | refine VS.seq ?_
      | refine VS.skip ?_
      | refine VS.block ?_
      | (refine VS.keepAt 6 [0, 2, 3, 5, 9, 10, 11] ?_; generalize hK : VS _ _ _ = KK; (try simp); (try subst hK); refine VS.drawn tabOk mixedOk (id := 6) [] [⟨0, 512, 536870912, 5⟩, ⟨1, 536870912, 1073741824, 5⟩, ⟨2, 1073741824, 2147483648, 5⟩, ⟨4, 2147483648, 4294967296, 6⟩, ⟨0, 2048, 8589934592, 5⟩, ⟨24, 12884901888, 17179869184, 5⟩, ⟨32, 17179869184, 34359738368, 6⟩, ⟨0, 32, 68719476736, 5⟩, ⟨128, 68719476736, 137438953472, 6⟩, ⟨320, 171798691840, 274877906944, 5⟩] (.take 0 (.take 1 (.take 2 (.take 3 (.take 4 (.take 5 (.take 6 (.take 7 (.take 8 (.take 9 (.done))))))))))) (.run [0, 1, 2, 3, 4, 5, 6, 7, 8, 9] (.done)) (by kernel_rfl) (by kernel_rfl) (by kernel_rfl) ?_; generalize hK : VS _ _ _ = KK; simp only [opsVc_run, opsVc_both, opsVc_chk, opsVc_done, opsVc_yes, pick_cons, pick_nil, List.getElem?_cons_zero, List.getElem?_cons_succ]; simp (maxSteps := 1000000) [hF, dAll, dTbs_at hj, hj, hk, hn1, dDeed]; (try subst hK); try (refine VS.keep [0, 2, 3, 5, 9, 10, 11, 38] ?_; generalize hK : VS _ _ _ = KK; simp; (try subst hK)))
      | (refine VS.cond ?_; generalize hK1 : VS _ _ _ = KK1; generalize hK2 : VS _ _ _ = KK2; simp (maxSteps := 1000000) [hF, dAll, dTbs_at hj, hj, hk, hn1, dDeed]; (try subst hK1); (try subst hK2))
    refine ⟨fun he => ?_, fun he => ?_⟩
    · repeat first
        | refine VS.nil ?_
        | refine blockN_normal ?_
        | refine loopN_normal ?_
        | (refine VS.keepAt 5 [0, 2, 3, 5, 9, 10, 11] ?_; generalize hK : VS _ _ _ = KK; (try simp); (try subst hK); refine VS.region tabOk (id := 5) [] (by kernel_rfl) ?_; generalize hK : VS _ _ _ = KK; simp (maxSteps := 1000000) [hF]; (try subst hK); try (refine VS.keep [0, 2, 3, 5, 9, 10, 11] ?_; generalize hK : VS _ _ _ = KK; simp; (try subst hK)))
        | (refine VS.keepAt 7 [0, 2, 3, 5, 9, 11] ?_; generalize hK : VS _ _ _ = KK; (try simp); (try subst hK); refine VS.region tabOk (id := 7) [] (by kernel_rfl) ?_; generalize hK : VS _ _ _ = KK; simp (maxSteps := 1000000) [hF]; (try subst hK); try (refine VS.keep [0, 2, 3, 5, 9, 10, 11] ?_; generalize hK : VS _ _ _ = KK; simp; (try subst hK)))
      refine nextK.of [0, 2, 3, 5, 9, 10, 11] [0, 1] (m - 1) (by omega) (by simp [hF]) ?_
      refine ⟨k + 1, by omega, ?_⟩
      simp [dAll, dDeed, atOf_eq hnd hk he]
      exact IntWalk.i64_in _ (by omega)
    · repeat first
        | refine VS.skip ?_
        | refine VS.nil ?_
        | refine blockN_normal ?_
        | refine loopN_normal ?_
        | (refine VS.keepAt 5 [0, 2, 3, 5, 9, 10, 11] ?_; generalize hK : VS _ _ _ = KK; (try simp); (try subst hK); refine VS.region tabOk (id := 5) [] (by kernel_rfl) ?_; generalize hK : VS _ _ _ = KK; simp (maxSteps := 1000000) [hF]; (try subst hK); try (refine VS.keep [0, 2, 3, 5, 9, 10, 11] ?_; generalize hK : VS _ _ _ = KK; simp; (try subst hK)))
      refine nextK.of [0, 2, 3, 5, 9, 10, 11] [0, 1] (m - 1) (by omega) (by simp [hF]) ?_
      refine ⟨k + 1, by omega, ?_⟩
      simp [dAll, dDeed, atOf_ne hk he]
      exact IntWalk.i64_in _ (by omega)
  · obtain rfl : k = S.objs[j].names.length := by omega
    rw [atOf_end]
    have hjl : j < (dTbs S.objs).len := by simpa using hj
    have hplace : 0 ≤ posIn name S.objs[j].names → (posIn name S.objs[j].names).toNat < S.objs[j].words.length ∧ posIn name S.objs[j].names < S.objs[j].words.length ∧ (posIn name S.objs[j].names).toNat < S.objs[j].names.length ∧ posIn name S.objs[j].names < S.objs[j].names.length := fun hpos => by
      obtain ⟨i, hi, h1, _⟩ := posIn_nonneg hpos
      omega
    simp [doOf] at hr
    obtain ⟨r1, r2, r3⟩ := hr
    subst r2
    cases hf : S.objs[j].frozen with
    | true =>
      rw [set_frozen hj hp hn hf] at r1 r3
      subst r1; subst r3
      repeat first
        | refine VS.seq ?_
        | refine VS.block ?_
        | refine VS.exit ?_
        | (refine VS.keepAt 8 [0, 2, 3, 5, 9, 10] ?_; generalize hK : VS _ _ _ = KK; (try simp); (try subst hK); refine VS.region tabOk (id := 8) [] (by kernel_rfl) ?_; generalize hK : VS _ _ _ = KK; simp (maxSteps := 1000000) [hF, dAll, dDeed, dTbs_at hj, hj, hf]; (try subst hK); try (refine VS.keep [0, 2, 3, 5, 9, 10, 41] ?_; generalize hK : VS _ _ _ = KK; simp; (try subst hK)))
        | (refine VS.keepAt 9 [0, 2, 3, 5, 9, 10, 41] ?_; generalize hK : VS _ _ _ = KK; (try simp); (try subst hK); refine VS.region tabOk (id := 9) [] (by kernel_rfl) ?_; generalize hK : VS _ _ _ = KK; simp (maxSteps := 1000000) [hF, dAll, dDeed, dTbs_at hj, hj, hf]; (try subst hK); try (refine VS.keep [0, 2, 3, 5, 9, 10, 41, 42] ?_; generalize hK : VS _ _ _ = KK; simp; (try subst hK)))
        | (refine VS.keepAt 10 [3, 5, 9, 10] ?_; generalize hK : VS _ _ _ = KK; (try simp); (try subst hK); refine VS.region tabOk (id := 10) [] (by kernel_rfl) ?_; generalize hK : VS _ _ _ = KK; simp (maxSteps := 1000000) [hF, dAll, dDeed, dTbs_at hj, hj, hf]; (try subst hK); try (refine VS.keep [3, 5, 9, 10, 47] ?_; generalize hK : VS _ _ _ = KK; simp; (try subst hK)))
        | (refine VS.keepAt 11 [3] ?_; generalize hK : VS _ _ _ = KK; (try simp); (try subst hK); refine VS.region tabOk (id := 11) [] (by kernel_rfl) ?_; generalize hK : VS _ _ _ = KK; simp (maxSteps := 1000000) [hF, dAll, dDeed, dTbs_at hj, hj, hf]; (try subst hK); try (refine VS.keep [8] ?_; generalize hK : VS _ _ _ = KK; simp; (try subst hK)))
        | (refine VS.cond ?_; generalize hK1 : VS _ _ _ = KK1; generalize hK2 : VS _ _ _ = KK2; simp (maxSteps := 1000000) [hF, dAll, dDeed, dTbs_at hj, hj, hf]; (try subst hK1); (try subst hK2))
      try refine VS.ret ?_
      repeat first | refine blockN_ret ?_ | refine loopN_ret ?_
      refine endK.of [8] [0] [(0, [.d])] (by simp [hF]) (by simp [covers, mpre]) ?_
      simp [hF, retK, dAll]
    | false =>
      by_cases hpos : 0 ≤ posIn name S.objs[j].names
      · obtain ⟨e1, e2⟩ := set_old hj hp hn hf hpos word
        rw [e2] at r3
        rw [r1] at e1
        subst r3
        obtain ⟨hlt1, hlt2, _, _⟩ := hplace hpos
        have hnth := dInts_nth hlt1
        have hset := dTbs_set S.objs j { S.objs[j] with words := S.objs[j].words.set (posIn name S.objs[j].names).toNat word }
        simp only [hf] at hset e1
        repeat first
          | refine VS.seq ?_
          | refine VS.skip ?_
          | refine VS.block ?_
          | refine VS.exit ?_
          | (refine VS.keepAt 8 [0, 2, 3, 5, 9, 10] ?_; generalize hK : VS _ _ _ = KK; (try simp); (try subst hK); refine VS.region tabOk (id := 8) [] (by kernel_rfl) ?_; generalize hK : VS _ _ _ = KK; simp (maxSteps := 1000000) [hF, dAll, dDeed, dTbs_at hj, hj, hf, hpos, hlt1, hlt2, hnth]; (try subst hK); try (refine VS.keep [0, 2, 3, 5, 9, 10, 41] ?_; generalize hK : VS _ _ _ = KK; simp; (try subst hK)))
          | (refine VS.keepAt 9 [0, 2, 3, 5, 9, 10, 41] ?_; generalize hK : VS _ _ _ = KK; (try simp); (try subst hK); refine VS.region tabOk (id := 9) [] (by kernel_rfl) ?_; generalize hK : VS _ _ _ = KK; simp (maxSteps := 1000000) [hF, dAll, dDeed, dTbs_at hj, hj, hf, hpos, hlt1, hlt2, hnth]; (try subst hK); try (refine VS.keep [0, 2, 3, 5, 9, 10, 41, 42] ?_; generalize hK : VS _ _ _ = KK; simp; (try subst hK)))
          | (refine VS.keepAt 10 [3, 5, 9, 10] ?_; generalize hK : VS _ _ _ = KK; (try simp); (try subst hK); refine VS.region tabOk (id := 10) [] (by kernel_rfl) ?_; generalize hK : VS _ _ _ = KK; simp (maxSteps := 1000000) [hF, dAll, dDeed, dTbs_at hj, hj, hf, hpos, hlt1, hlt2, hnth]; (try subst hK); try (refine VS.keep [3, 5, 9, 10, 47] ?_; generalize hK : VS _ _ _ = KK; simp; (try subst hK)))
          | (refine VS.keepAt 12 [3, 5, 9, 10] ?_; generalize hK : VS _ _ _ = KK; (try simp); (try subst hK); refine VS.region tabOk (id := 12) [] (by kernel_rfl) ?_; generalize hK : VS _ _ _ = KK; simp (maxSteps := 1000000) [hF, dAll, dDeed, dTbs_at hj, hj, hf, hpos, hlt1, hlt2, hnth]; (try subst hK); try (refine VS.keep [3, 5, 9, 10, 51] ?_; generalize hK : VS _ _ _ = KK; simp; (try subst hK)))
          | (refine VS.keepAt 13 [3, 5, 9, 10] ?_; generalize hK : VS _ _ _ = KK; (try simp); (try subst hK); refine VS.drawn tabOk mixedOk (id := 13) [] [⟨0, 512, 4503599627370496, 5⟩, ⟨1, 4503599627370496, 9007199254740992, 5⟩, ⟨2, 9007199254740992, 18014398509481984, 5⟩, ⟨4, 18014398509481984, 36028797018963968, 6⟩, ⟨0, 1024, 72057594037927936, 5⟩, ⟨0, 32, 144115188075855872, 5⟩, ⟨32, 144115188075855872, 288230376151711744, 6⟩, ⟨127, 108086391056891904, 576460752303423488, 5⟩, ⟨255, 864691128455135232, 0, 0⟩] (.take 0 (.take 1 (.take 2 (.take 3 (.take 4 (.take 5 (.take 6 (.take 7 (.fork (.alt 8 (.done) (.nil))))))))))) (.run [0, 1, 2, 3, 4, 5, 6, 7, 8] (.done)) (by kernel_rfl) (by kernel_rfl) (by kernel_rfl) ?_; generalize hK : VS _ _ _ = KK; simp only [opsVc_run, opsVc_both, opsVc_chk, opsVc_done, opsVc_yes, pick_cons, pick_nil, List.getElem?_cons_zero, List.getElem?_cons_succ]; simp (maxSteps := 1000000) [hF, dAll, dDeed, dTbs_at hj, hj, hf, hpos, hlt1, hlt2, hnth]; (try subst hK); try (refine VS.keep [3] ?_; generalize hK : VS _ _ _ = KK; simp; (try subst hK)))
          | (refine VS.keepAt 16 [3] ?_; generalize hK : VS _ _ _ = KK; (try simp); (try subst hK); refine VS.region tabOk (id := 16) [] (by kernel_rfl) ?_; generalize hK : VS _ _ _ = KK; simp (maxSteps := 1000000) [hF, dAll, dDeed, dTbs_at hj, hj, hf, hpos, hlt1, hlt2, hnth]; (try subst hK); try (refine VS.keep [8] ?_; generalize hK : VS _ _ _ = KK; simp; (try subst hK)))
          | (refine VS.cond ?_; generalize hK1 : VS _ _ _ = KK1; generalize hK2 : VS _ _ _ = KK2; simp (maxSteps := 1000000) [hF, dAll, dDeed, dTbs_at hj, hj, hf, hpos, hlt1, hlt2, hnth]; (try subst hK1); (try subst hK2))
        try refine VS.ret ?_
        repeat first | refine blockN_ret ?_ | refine loopN_ret ?_
        refine endK.of [8] [0] [(0, [.d])] (by simp [hF]) (by simp [covers, mpre]) ?_
        simp [hF, retK, dAll, e1, hset]
      · obtain ⟨sh, e1, e2⟩ := set_new hj hp hn hf hpos word
        rw [e2] at r3
        rw [r1] at e1
        subst r3
        have hneg : posIn name S.objs[j].names < 0 := by omega
        have hset := dTbs_set S.objs j ⟨sh, S.objs[j].names ++ [name], S.objs[j].words ++ [word], S.objs[j].frozen⟩
        simp only [hf] at hset e1
        repeat' first
          | refine VS.seq ?_
          | refine VS.skip ?_
          | refine VS.block ?_
          | refine VS.exit ?_
          | refine ⟨⟨by omega, by omega⟩, ?_⟩
          | (refine VS.keepAt 8 [0, 2, 3, 5, 9, 10] ?_; generalize hK : VS _ _ _ = KK; (try simp); (try subst hK); refine VS.region tabOk (id := 8) [] (by kernel_rfl) ?_; generalize hK : VS _ _ _ = KK; simp (maxSteps := 1000000) [hF, dAll, dDeed, dTbs_at hj, hj, hf, hpos, hneg, T.nth_setN_same _ hjl]; (try subst hK); try (refine VS.keep [0, 2, 3, 5, 9, 10, 41] ?_; generalize hK : VS _ _ _ = KK; simp; (try subst hK)))
          | (refine VS.keepAt 9 [0, 2, 3, 5, 9, 10, 41] ?_; generalize hK : VS _ _ _ = KK; (try simp); (try subst hK); refine VS.region tabOk (id := 9) [] (by kernel_rfl) ?_; generalize hK : VS _ _ _ = KK; simp (maxSteps := 1000000) [hF, dAll, dDeed, dTbs_at hj, hj, hf, hpos, hneg, T.nth_setN_same _ hjl]; (try subst hK); try (refine VS.keep [0, 2, 3, 5, 9, 10, 41, 42] ?_; generalize hK : VS _ _ _ = KK; simp; (try subst hK)))
          | (refine VS.keepAt 10 [3, 5, 9, 10] ?_; generalize hK : VS _ _ _ = KK; (try simp); (try subst hK); refine VS.region tabOk (id := 10) [] (by kernel_rfl) ?_; generalize hK : VS _ _ _ = KK; simp (maxSteps := 1000000) [hF, dAll, dDeed, dTbs_at hj, hj, hf, hpos, hneg, T.nth_setN_same _ hjl]; (try subst hK); try (refine VS.keep [3, 5, 9, 10, 47] ?_; generalize hK : VS _ _ _ = KK; simp; (try subst hK)))
          | (refine VS.keepAt 12 [3, 5, 9, 10] ?_; generalize hK : VS _ _ _ = KK; (try simp); (try subst hK); refine VS.region tabOk (id := 12) [] (by kernel_rfl) ?_; generalize hK : VS _ _ _ = KK; simp (maxSteps := 1000000) [hF, dAll, dDeed, dTbs_at hj, hj, hf, hpos, hneg, T.nth_setN_same _ hjl]; (try subst hK); try (refine VS.keep [3, 5, 9, 10, 51] ?_; generalize hK : VS _ _ _ = KK; simp; (try subst hK)))
          | (refine VS.keepAt 14 [3, 5, 9] ?_; generalize hK : VS _ _ _ = KK; (try simp); (try subst hK); refine VS.drawnE tabOk mixedOk (id := 14) 64 [] [⟨0, 512, 1152921504606846976, 5⟩, ⟨0, 0, 2305843009213693952, 4⟩, ⟨0, 512, 4611686018427387904, 5⟩, ⟨4, 4611686018427387904, 9223372036854775808, 5⟩, ⟨8, 9223372036854775808, 18446744073709551616, 5⟩, ⟨16, 18446744073709551616, 36893488147419103232, 6⟩, ⟨34, 39199331156632797184, 73786976294838206464, 0⟩, ⟨0, 32, 147573952589676412928, 5⟩, ⟨128, 147573952589676412928, 295147905179352825856, 6⟩, ⟨256, 295147905179352825856, 590295810358705651712, 4⟩, ⟨576, 664082786653543858176, 1180591620717411303424, 0⟩, ⟨2047, 1152921504606846976, 2361183241434822606848, 5⟩, ⟨4095, 2361183241434822606848, 4722366482869645213696, 5⟩, ⟨6143, 5902958103587056517120, 0, 0⟩] (.take 0 (.take 2 (.take 3 (.take 4 (.take 5 (.take 7 (.take 8 (.fork (.alt 1 (.fork (.alt 6 (.fork (.alt 9 (.fork (.alt 10 (.take 11 (.take 12 (.fork (.alt 13 (.done) (.nil))))) (.nil))) (.nil))) (.alt 9 (.fork (.alt 6 (.fork (.alt 10 (.take 11 (.take 12 (.fork (.alt 13 (.done) (.nil))))) (.nil))) (.nil))) (.nil)))) (.alt 9 (.fork (.alt 1 (.fork (.alt 6 (.fork (.alt 10 (.take 11 (.take 12 (.fork (.alt 13 (.done) (.nil))))) (.nil))) (.nil))) (.nil))) (.nil))))))))))) (.run [0, 2, 3, 4, 5, 7, 8] (.both (.run [1] (.both (.chk 6 (.run [6, 9, 10, 11, 12, 13] (.done))) (.run [9] (.chk 6 (.run [6, 10, 11, 12, 13] (.done)))))) (.run [9, 1] (.chk 6 (.run [6, 10, 11, 12, 13] (.done)))))) (by kernel_rfl) (by kernel_rfl) (by kernel_rfl) ?_; generalize hK : VS _ _ _ = KK; simp only [opsVc_run, opsVc_both, opsVc_chk, opsVc_done, opsVc_yes, pick_cons, pick_nil, List.getElem?_cons_zero, List.getElem?_cons_succ]; simp (maxSteps := 1000000) [hF, dAll, dDeed, dTbs_at hj, hj, hf, hpos, hneg, T.nth_setN_same _ hjl]; (try subst hK); try (refine VS.keep [3, 5, 9] ?_; generalize hK : VS _ _ _ = KK; simp; (try subst hK)))
          | (refine VS.keepAt 15 [3, 5, 9] ?_; generalize hK : VS _ _ _ = KK; (try simp); (try subst hK); refine VS.drawnE tabOk mixedOk (id := 15) 64 [] [⟨0, 512, 9444732965739290427392, 5⟩, ⟨0, 0, 18889465931478580854784, 4⟩, ⟨0, 512, 37778931862957161709568, 5⟩, ⟨4, 37778931862957161709568, 75557863725914323419136, 5⟩, ⟨8, 75557863725914323419136, 151115727451828646838272, 5⟩, ⟨16, 151115727451828646838272, 302231454903657293676544, 6⟩, ⟨34, 321120920835135874531328, 604462909807314587353088, 0⟩, ⟨0, 32, 1208925819614629174706176, 5⟩, ⟨128, 1208925819614629174706176, 2417851639229258349412352, 6⟩, ⟨256, 2417851639229258349412352, 4835703278458516698824704, 4⟩, ⟨576, 5440166188265831286177792, 9671406556917033397649408, 0⟩, ⟨2047, 9444732965739290427392, 19342813113834066795298816, 5⟩, ⟨4095, 19342813113834066795298816, 38685626227668133590597632, 5⟩, ⟨6143, 48357032784585166988247040, 0, 0⟩] (.take 0 (.take 2 (.take 3 (.take 4 (.take 5 (.take 7 (.take 8 (.fork (.alt 1 (.fork (.alt 6 (.fork (.alt 9 (.fork (.alt 10 (.take 11 (.take 12 (.fork (.alt 13 (.done) (.nil))))) (.nil))) (.nil))) (.alt 9 (.fork (.alt 6 (.fork (.alt 10 (.take 11 (.take 12 (.fork (.alt 13 (.done) (.nil))))) (.nil))) (.nil))) (.nil)))) (.alt 9 (.fork (.alt 1 (.fork (.alt 6 (.fork (.alt 10 (.take 11 (.take 12 (.fork (.alt 13 (.done) (.nil))))) (.nil))) (.nil))) (.nil))) (.nil))))))))))) (.run [0, 2, 3, 4, 5, 7, 8] (.both (.run [1] (.both (.chk 6 (.run [6, 9, 10, 11, 12, 13] (.done))) (.run [9] (.chk 6 (.run [6, 10, 11, 12, 13] (.done)))))) (.run [9, 1] (.chk 6 (.run [6, 10, 11, 12, 13] (.done)))))) (by kernel_rfl) (by kernel_rfl) (by kernel_rfl) ?_; generalize hK : VS _ _ _ = KK; simp only [opsVc_run, opsVc_both, opsVc_chk, opsVc_done, opsVc_yes, pick_cons, pick_nil, List.getElem?_cons_zero, List.getElem?_cons_succ]; simp (maxSteps := 1000000) [hF, dAll, dDeed, dTbs_at hj, hj, hf, hpos, hneg, T.nth_setN_same _ hjl]; (try subst hK); try (refine VS.keep [3] ?_; generalize hK : VS _ _ _ = KK; simp; (try subst hK)))
          | (refine VS.keepAt 16 [3] ?_; generalize hK : VS _ _ _ = KK; (try simp); (try subst hK); refine VS.region tabOk (id := 16) [] (by kernel_rfl) ?_; generalize hK : VS _ _ _ = KK; simp (maxSteps := 1000000) [hF, dAll, dDeed, dTbs_at hj, hj, hf, hpos, hneg, T.nth_setN_same _ hjl]; (try subst hK); try (refine VS.keep [8] ?_; generalize hK : VS _ _ _ = KK; simp; (try subst hK)))
          | (refine VS.cond ?_; generalize hK1 : VS _ _ _ = KK1; generalize hK2 : VS _ _ _ = KK2; simp (maxSteps := 1000000) [hF, dAll, dDeed, dTbs_at hj, hj, hf, hpos, hneg, T.nth_setN_same _ hjl]; (try subst hK1); (try subst hK2))
          | refine And.intro ?_ ?_
        all_goals try refine VS.ret ?_
        all_goals repeat first | refine blockN_ret ?_ | refine loopN_ret ?_
        all_goals refine endK.of [8] [0] [(0, [.d])] (by simp [hF]) (by simp [covers, mpre]) ?_
        all_goals simp [hF, retK, dAll, e1, hset]
end Go.Proofs.Ythcndkpkkaphoaa

/- A deed (2) with tables. -/
namespace Go.Proofs.Ythcndkpkkaphoaa
set_option linter.all false
open Go.Vc Go.Proofs
set_option linter.unusedSimpArgs false
set_option maxRecDepth 100000
set_option maxHeartbeats 4000000
attribute [local irreducible] CallW EqK

/- cabochon/cabochonlaw20.played1 -/
theorem played1_2 (S : Sp) (hp : 0 < S.shapes.length) {N : Nat} (hS : WF S N) (hN : N < 1000000) (hG : Good S) (d : Deed) (j : Nat) (hj : j < S.objs.length) (hd : d.obj = j) (hn : namedB d.name = true) (hop : d.op = 2) :
    Meets Try.prog 26 [dAll S.objs] (.cons (.ptr 0 [.d]) (.cons (avDeed d) (.cons (avInt (doOf S d).2.1) (.cons (avInt (doOf S d).2.2) .nil))))
    fun av X κ => av = .val (.bool true) ∧ X = [dAll (doOf S d).1.objs] ∧ κ = [(0, [.d])] := by
  obtain ⟨op, ob, name, word⟩ := d
  simp only at hd hn hop
  subst hd
  subst hop
  have ho := hS.ob _ (List.getElem_mem hj)
  have hnl := ho.names_len
  have hwl := ho.1
  have hno := hS.no
  obtain ⟨hnd, _⟩ := hG _ (List.getElem_mem hj)
  unfold avDeed
  generalize hr : doOf S ⟨2, j, name, word⟩ = r
  obtain ⟨S', n, e⟩ := r
  simp only
  refine Meets.of_vs tabOk Try.func26 (body := ?_) ?_ (by kernel_rfl) Try.ntmps26 (rs := [.tmp 8]) (by kernel_rfl) rfl (by simp [AV.len]) (by simp only [envOf]; exact rfl) ?_
  rotate_left
  · rfl
  intro w0 I0 F0 hF
  repeat first
    | refine VS.seq ?_
    | refine VS.block ?_
    | (refine VS.keepAt 0 [0, 1, 2, 3] ?_; generalize hK : VS _ _ _ = KK; (try simp); (try subst hK); refine VS.region tabOk (id := 0) [] (by kernel_rfl) ?_; generalize hK : VS _ _ _ = KK; simp (maxSteps := 1000000) [hF, dAll, dTbs_at hj, hj]; (try subst hK); try (refine VS.keep [0, 2, 3, 5] ?_; generalize hK : VS _ _ _ = KK; simp; (try subst hK)))
    | (refine VS.keepAt 1 [0, 2, 3, 5] ?_; generalize hK : VS _ _ _ = KK; (try simp); (try subst hK); refine VS.drawn tabOk mixedOk (id := 1) [] [⟨0, 1, 16384, 5⟩, ⟨1, 16384, 32768, 5⟩, ⟨2, 32768, 65536, 6⟩, ⟨0, 32, 131072, 5⟩, ⟨8, 131072, 262144, 6⟩, ⟨20, 327680, 524288, 5⟩, ⟨63, 524288, 512, 5⟩] (.take 0 (.take 1 (.take 2 (.take 3 (.take 4 (.take 5 (.take 6 (.done)))))))) (.run [0, 1, 2, 3, 4, 5, 6] (.done)) (by kernel_rfl) (by kernel_rfl) (by kernel_rfl) ?_; generalize hK : VS _ _ _ = KK; simp only [opsVc_run, opsVc_both, opsVc_chk, opsVc_done, opsVc_yes, pick_cons, pick_nil, List.getElem?_cons_zero, List.getElem?_cons_succ]; simp (maxSteps := 1000000) [hF, dAll, dTbs_at hj, hj]; (try subst hK); try (refine VS.keep [0, 2, 3, 5, 9] ?_; generalize hK : VS _ _ _ = KK; simp; (try subst hK)))
    | (refine VS.keepAt 2 [0, 2, 3, 5, 9] ?_; generalize hK : VS _ _ _ = KK; (try simp); (try subst hK); refine VS.region tabOk (id := 2) [] (by kernel_rfl) ?_; generalize hK : VS _ _ _ = KK; simp (maxSteps := 1000000) [hF, dAll, dTbs_at hj, hj]; (try subst hK); try (refine VS.keep [0, 2, 3, 5, 9, 10] ?_; generalize hK : VS _ _ _ = KK; simp; (try subst hK)))
    | (refine VS.keepAt 3 [0, 2, 3, 5, 9, 10] ?_; generalize hK : VS _ _ _ = KK; (try simp); (try subst hK); refine VS.region tabOk (id := 3) [] (by kernel_rfl) ?_; generalize hK : VS _ _ _ = KK; simp (maxSteps := 1000000) [hF, dAll, dTbs_at hj, hj]; (try subst hK); try (refine VS.keep [0, 2, 3, 5, 9, 10, 11] ?_; generalize hK : VS _ _ _ = KK; simp; (try subst hK)))
  refine VS.rounds (fun m st => ∃ (k : Nat), k + m = S.objs[j].names.length ∧
    st = ⟨[(0, .ptr 0 [.d]), (2, avInt n), (3, avInt e), (5, .ptr 1 [.d]), (9, .ptr 0 [.d, .i j]), (10, avInt (atOf name S.objs[j].names k)), (11, avInt k)],
      [dAll S.objs, .box true () (dDeed ⟨2, j, name, word⟩)], [], []⟩) ⟨S.objs[j].names.length, 0, by omega, ?_⟩ ?_
  · have h0 : atOf name S.objs[j].names 0 = -1 := by unfold atOf; rw [if_neg (by omega)]
    simp [dAll, dDeed, h0]
  rintro m st ⟨k, hkm, rfl⟩
  repeat first
    | refine VS.seq ?_
    | (refine VS.keepAt 4 [0, 2, 3, 5, 9, 10, 11] ?_; generalize hK : VS _ _ _ = KK; (try simp); (try subst hK); refine VS.region tabOk (id := 4) [] (by kernel_rfl) ?_; generalize hK : VS _ _ _ = KK; simp (maxSteps := 1000000) [hF, dAll, dTbs_at hj, hj]; (try subst hK); try (refine VS.keep [0, 2, 3, 5, 9, 10, 11, 26] ?_; generalize hK : VS _ _ _ = KK; simp; (try subst hK)))
    | (refine VS.cond ?_; generalize hK1 : VS _ _ _ = KK1; generalize hK2 : VS _ _ _ = KK2; simp (maxSteps := 1000000) [hF, dAll, dTbs_at hj, hj]; (try subst hK1); (try subst hK2))
  refine ⟨fun hlt => ?_, fun hge => ?_⟩
  · have hk : k < S.objs[j].names.length := by omega
    have hn1 := dStrs_nth hk
    repeat first
      | refine VS.seq ?_
      | refine VS.skip ?_
      | refine VS.block ?_
      | (refine VS.keepAt 6 [0, 2, 3, 5, 9, 10, 11] ?_; generalize hK : VS _ _ _ = KK; (try simp); (try subst hK); refine VS.drawn tabOk mixedOk (id := 6) [] [⟨0, 512, 536870912, 5⟩, ⟨1, 536870912, 1073741824, 5⟩, ⟨2, 1073741824, 2147483648, 5⟩, ⟨4, 2147483648, 4294967296, 6⟩, ⟨0, 2048, 8589934592, 5⟩, ⟨24, 12884901888, 17179869184, 5⟩, ⟨32, 17179869184, 34359738368, 6⟩, ⟨0, 32, 68719476736, 5⟩, ⟨128, 68719476736, 137438953472, 6⟩, ⟨320, 171798691840, 274877906944, 5⟩] (.take 0 (.take 1 (.take 2 (.take 3 (.take 4 (.take 5 (.take 6 (.take 7 (.take 8 (.take 9 (.done))))))))))) (.run [0, 1, 2, 3, 4, 5, 6, 7, 8, 9] (.done)) (by kernel_rfl) (by kernel_rfl) (by kernel_rfl) ?_; generalize hK : VS _ _ _ = KK; simp only [opsVc_run, opsVc_both, opsVc_chk, opsVc_done, opsVc_yes, pick_cons, pick_nil, List.getElem?_cons_zero, List.getElem?_cons_succ]; simp (maxSteps := 1000000) [hF, dAll, dTbs_at hj, hj, hk, hn1, dDeed]; (try subst hK); try (refine VS.keep [0, 2, 3, 5, 9, 10, 11, 38] ?_; generalize hK : VS _ _ _ = KK; simp; (try subst hK)))
      | (refine VS.cond ?_; generalize hK1 : VS _ _ _ = KK1; generalize hK2 : VS _ _ _ = KK2; simp (maxSteps := 1000000) [hF, dAll, dTbs_at hj, hj, hk, hn1, dDeed]; (try subst hK1); (try subst hK2))
    refine ⟨fun he => ?_, fun he => ?_⟩
    · repeat first
        | refine VS.nil ?_
        | refine blockN_normal ?_
        | refine loopN_normal ?_
        | (refine VS.keepAt 5 [0, 2, 3, 5, 9, 10, 11] ?_; generalize hK : VS _ _ _ = KK; (try simp); (try subst hK); refine VS.region tabOk (id := 5) [] (by kernel_rfl) ?_; generalize hK : VS _ _ _ = KK; simp (maxSteps := 1000000) [hF]; (try subst hK); try (refine VS.keep [0, 2, 3, 5, 9, 10, 11] ?_; generalize hK : VS _ _ _ = KK; simp; (try subst hK)))
        | (refine VS.keepAt 7 [0, 2, 3, 5, 9, 11] ?_; generalize hK : VS _ _ _ = KK; (try simp); (try subst hK); refine VS.region tabOk (id := 7) [] (by kernel_rfl) ?_; generalize hK : VS _ _ _ = KK; simp (maxSteps := 1000000) [hF]; (try subst hK); try (refine VS.keep [0, 2, 3, 5, 9, 10, 11] ?_; generalize hK : VS _ _ _ = KK; simp; (try subst hK)))
      refine nextK.of [0, 2, 3, 5, 9, 10, 11] [0, 1] (m - 1) (by omega) (by simp [hF]) ?_
      refine ⟨k + 1, by omega, ?_⟩
      simp [dAll, dDeed, atOf_eq hnd hk he]
      exact IntWalk.i64_in _ (by omega)
    · repeat first
        | refine VS.skip ?_
        | refine VS.nil ?_
        | refine blockN_normal ?_
        | refine loopN_normal ?_
        | (refine VS.keepAt 5 [0, 2, 3, 5, 9, 10, 11] ?_; generalize hK : VS _ _ _ = KK; (try simp); (try subst hK); refine VS.region tabOk (id := 5) [] (by kernel_rfl) ?_; generalize hK : VS _ _ _ = KK; simp (maxSteps := 1000000) [hF]; (try subst hK); try (refine VS.keep [0, 2, 3, 5, 9, 10, 11] ?_; generalize hK : VS _ _ _ = KK; simp; (try subst hK)))
      refine nextK.of [0, 2, 3, 5, 9, 10, 11] [0, 1] (m - 1) (by omega) (by simp [hF]) ?_
      refine ⟨k + 1, by omega, ?_⟩
      simp [dAll, dDeed, atOf_ne hk he]
      exact IntWalk.i64_in _ (by omega)
  · obtain rfl : k = S.objs[j].names.length := by omega
    rw [atOf_end]
    have hjl : j < (dTbs S.objs).len := by simpa using hj
    have hplace : 0 ≤ posIn name S.objs[j].names → (posIn name S.objs[j].names).toNat < S.objs[j].words.length ∧ posIn name S.objs[j].names < S.objs[j].words.length ∧ (posIn name S.objs[j].names).toNat < S.objs[j].names.length ∧ posIn name S.objs[j].names < S.objs[j].names.length := fun hpos => by
      obtain ⟨i, hi, h1, _⟩ := posIn_nonneg hpos
      omega
    simp [doOf] at hr
    obtain ⟨r1, r2⟩ := hr
    subst r1
    by_cases hpos : 0 ≤ posIn name S.objs[j].names
    · rw [get_old hj hp hn hpos] at r2
      obtain ⟨hlt1, hlt2, _, _⟩ := hplace hpos
      have hnth := dInts_nth hlt1
      have hneg : ¬ posIn name S.objs[j].names < 0 := by omega
      have hgd : S.objs[j].words.getD (posIn name S.objs[j].names).toNat 0 = S.objs[j].words[(posIn name S.objs[j].names).toNat] := by simp [hlt1]
      rw [hgd] at r2
      cases r2
      repeat first
        | refine VS.seq ?_
        | refine VS.skip ?_
        | refine VS.block ?_
        | refine VS.exit ?_
        | (refine VS.keepAt 8 [0, 2, 3, 5, 9, 10] ?_; generalize hK : VS _ _ _ = KK; (try simp); (try subst hK); refine VS.region tabOk (id := 8) [] (by kernel_rfl) ?_; generalize hK : VS _ _ _ = KK; simp (maxSteps := 1000000) [hF, dAll, dDeed, dTbs_at hj, hj, hpos, hneg, hlt1, hlt2, hnth]; (try subst hK); try (refine VS.keep [0, 2, 3, 5, 9, 10, 41] ?_; generalize hK : VS _ _ _ = KK; simp; (try subst hK)))
        | (refine VS.keepAt 9 [0, 2, 3, 5, 9, 10, 41] ?_; generalize hK : VS _ _ _ = KK; (try simp); (try subst hK); refine VS.region tabOk (id := 9) [] (by kernel_rfl) ?_; generalize hK : VS _ _ _ = KK; simp (maxSteps := 1000000) [hF, dAll, dDeed, dTbs_at hj, hj, hpos, hneg, hlt1, hlt2, hnth]; (try subst hK); try (refine VS.keep [0, 2, 3, 5, 9, 10, 41, 42] ?_; generalize hK : VS _ _ _ = KK; simp; (try subst hK)))
        | (refine VS.keepAt 17 [0, 2, 3, 9, 10, 41] ?_; generalize hK : VS _ _ _ = KK; (try simp); (try subst hK); refine VS.region tabOk (id := 17) [] (by kernel_rfl) ?_; generalize hK : VS _ _ _ = KK; simp (maxSteps := 1000000) [hF, dAll, dDeed, dTbs_at hj, hj, hpos, hneg, hlt1, hlt2, hnth]; (try subst hK); try (refine VS.keep [0, 2, 3, 9, 10, 41, 88] ?_; generalize hK : VS _ _ _ = KK; simp; (try subst hK)))
        | (refine VS.keepAt 18 [2, 3, 9, 10] ?_; generalize hK : VS _ _ _ = KK; (try simp); (try subst hK); refine VS.region tabOk (id := 18) [] (by kernel_rfl) ?_; generalize hK : VS _ _ _ = KK; simp (maxSteps := 1000000) [hF, dAll, dDeed, dTbs_at hj, hj, hpos, hneg, hlt1, hlt2, hnth]; (try subst hK); try (refine VS.keep [2, 3, 9, 10, 91] ?_; generalize hK : VS _ _ _ = KK; simp; (try subst hK)))
        | (refine VS.keepAt 20 [2, 3, 9, 10] ?_; generalize hK : VS _ _ _ = KK; (try simp); (try subst hK); refine VS.region tabOk (id := 20) [(2, 96)] (by kernel_rfl) ?_; generalize hK : VS _ _ _ = KK; simp (maxSteps := 1000000) [hF, dAll, dDeed, dTbs_at hj, hj, hpos, hneg, hlt1, hlt2, hnth]; (try subst hK); try (refine VS.keep [8] ?_; generalize hK : VS _ _ _ = KK; simp; (try subst hK)))
        | (refine VS.cond ?_; generalize hK1 : VS _ _ _ = KK1; generalize hK2 : VS _ _ _ = KK2; simp (maxSteps := 1000000) [hF, dAll, dDeed, dTbs_at hj, hj, hpos, hneg, hlt1, hlt2, hnth]; (try subst hK1); (try subst hK2))
      try refine VS.ret ?_
      repeat first | refine blockN_ret ?_ | refine loopN_ret ?_
      refine endK.of [8] [0] [(0, [.d])] (by simp [hF]) (by simp [covers, mpre]) ?_
      simp [hF, retK, dAll]
    · rw [get_none hj hp hn hpos] at r2
      have hneg : posIn name S.objs[j].names < 0 := by omega
      cases r2
      repeat first
        | refine VS.seq ?_
        | refine VS.block ?_
        | refine VS.exit ?_
        | (refine VS.keepAt 8 [0, 2, 3, 5, 9, 10] ?_; generalize hK : VS _ _ _ = KK; (try simp); (try subst hK); refine VS.region tabOk (id := 8) [] (by kernel_rfl) ?_; generalize hK : VS _ _ _ = KK; simp (maxSteps := 1000000) [hF, dAll, dDeed, dTbs_at hj, hj, hpos, hneg]; (try subst hK); try (refine VS.keep [0, 2, 3, 5, 9, 10, 41] ?_; generalize hK : VS _ _ _ = KK; simp; (try subst hK)))
        | (refine VS.keepAt 9 [0, 2, 3, 5, 9, 10, 41] ?_; generalize hK : VS _ _ _ = KK; (try simp); (try subst hK); refine VS.region tabOk (id := 9) [] (by kernel_rfl) ?_; generalize hK : VS _ _ _ = KK; simp (maxSteps := 1000000) [hF, dAll, dDeed, dTbs_at hj, hj, hpos, hneg]; (try subst hK); try (refine VS.keep [0, 2, 3, 5, 9, 10, 41, 42] ?_; generalize hK : VS _ _ _ = KK; simp; (try subst hK)))
        | (refine VS.keepAt 17 [0, 2, 3, 9, 10, 41] ?_; generalize hK : VS _ _ _ = KK; (try simp); (try subst hK); refine VS.region tabOk (id := 17) [] (by kernel_rfl) ?_; generalize hK : VS _ _ _ = KK; simp (maxSteps := 1000000) [hF, dAll, dDeed, dTbs_at hj, hj, hpos, hneg]; (try subst hK); try (refine VS.keep [0, 2, 3, 9, 10, 41, 88] ?_; generalize hK : VS _ _ _ = KK; simp; (try subst hK)))
        | (refine VS.keepAt 18 [2, 3, 9, 10] ?_; generalize hK : VS _ _ _ = KK; (try simp); (try subst hK); refine VS.region tabOk (id := 18) [] (by kernel_rfl) ?_; generalize hK : VS _ _ _ = KK; simp (maxSteps := 1000000) [hF, dAll, dDeed, dTbs_at hj, hj, hpos, hneg]; (try subst hK); try (refine VS.keep [2, 3, 9, 10, 91] ?_; generalize hK : VS _ _ _ = KK; simp; (try subst hK)))
        | (refine VS.keepAt 19 [3] ?_; generalize hK : VS _ _ _ = KK; (try simp); (try subst hK); refine VS.region tabOk (id := 19) [] (by kernel_rfl) ?_; generalize hK : VS _ _ _ = KK; simp (maxSteps := 1000000) [hF, dAll, dDeed, dTbs_at hj, hj, hpos, hneg]; (try subst hK); try (refine VS.keep [8] ?_; generalize hK : VS _ _ _ = KK; simp; (try subst hK)))
        | (refine VS.cond ?_; generalize hK1 : VS _ _ _ = KK1; generalize hK2 : VS _ _ _ = KK2; simp (maxSteps := 1000000) [hF, dAll, dDeed, dTbs_at hj, hj, hpos, hneg]; (try subst hK1); (try subst hK2))
      try refine VS.ret ?_
      repeat first | refine blockN_ret ?_ | refine loopN_ret ?_
      refine endK.of [8] [0] [(0, [.d])] (by simp [hF]) (by simp [covers, mpre]) ?_
      simp [hF, retK, dAll]
end Go.Proofs.Ythcndkpkkaphoaa

/- A deed (3) with tables. -/
namespace Go.Proofs.Ythcndkpkkaphoaa
set_option linter.all false
open Go.Vc Go.Proofs
set_option linter.unusedSimpArgs false
set_option maxRecDepth 100000
set_option maxHeartbeats 4000000
attribute [local irreducible] CallW EqK

/- cabochon/cabochonlaw20.played1 -/
theorem played1_3 (S : Sp) (hp : 0 < S.shapes.length) {N : Nat} (hS : WF S N) (hN : N < 1000000) (hG : Good S) (d : Deed) (j : Nat) (hj : j < S.objs.length) (hd : d.obj = j) (hn : namedB d.name = true) (hop : d.op = 3) :
    Meets Try.prog 26 [dAll S.objs] (.cons (.ptr 0 [.d]) (.cons (avDeed d) (.cons (avInt (doOf S d).2.1) (.cons (avInt (doOf S d).2.2) .nil))))
    fun av X κ => av = .val (.bool true) ∧ X = [dAll (doOf S d).1.objs] ∧ κ = [(0, [.d])] := by
  obtain ⟨op, ob, name, word⟩ := d
  simp only at hd hn hop
  subst hd
  subst hop
  have ho := hS.ob _ (List.getElem_mem hj)
  have hnl := ho.names_len
  have hwl := ho.1
  have hno := hS.no
  obtain ⟨hnd, _⟩ := hG _ (List.getElem_mem hj)
  unfold avDeed
  generalize hr : doOf S ⟨3, j, name, word⟩ = r
  obtain ⟨S', n, e⟩ := r
  simp only
  refine Meets.of_vs tabOk Try.func26 (body := ?_) ?_ (by kernel_rfl) Try.ntmps26 (rs := [.tmp 8]) (by kernel_rfl) rfl (by simp [AV.len]) (by simp only [envOf]; exact rfl) ?_
  rotate_left
  · rfl
  intro w0 I0 F0 hF
  repeat first
    | refine VS.seq ?_
    | refine VS.block ?_
    | (refine VS.keepAt 0 [0, 1, 2, 3] ?_; generalize hK : VS _ _ _ = KK; (try simp); (try subst hK); refine VS.region tabOk (id := 0) [] (by kernel_rfl) ?_; generalize hK : VS _ _ _ = KK; simp (maxSteps := 1000000) [hF, dAll, dTbs_at hj, hj]; (try subst hK); try (refine VS.keep [0, 2, 3, 5] ?_; generalize hK : VS _ _ _ = KK; simp; (try subst hK)))
    | (refine VS.keepAt 1 [0, 2, 3, 5] ?_; generalize hK : VS _ _ _ = KK; (try simp); (try subst hK); refine VS.drawn tabOk mixedOk (id := 1) [] [⟨0, 1, 16384, 5⟩, ⟨1, 16384, 32768, 5⟩, ⟨2, 32768, 65536, 6⟩, ⟨0, 32, 131072, 5⟩, ⟨8, 131072, 262144, 6⟩, ⟨20, 327680, 524288, 5⟩, ⟨63, 524288, 512, 5⟩] (.take 0 (.take 1 (.take 2 (.take 3 (.take 4 (.take 5 (.take 6 (.done)))))))) (.run [0, 1, 2, 3, 4, 5, 6] (.done)) (by kernel_rfl) (by kernel_rfl) (by kernel_rfl) ?_; generalize hK : VS _ _ _ = KK; simp only [opsVc_run, opsVc_both, opsVc_chk, opsVc_done, opsVc_yes, pick_cons, pick_nil, List.getElem?_cons_zero, List.getElem?_cons_succ]; simp (maxSteps := 1000000) [hF, dAll, dTbs_at hj, hj]; (try subst hK); try (refine VS.keep [0, 2, 3, 5, 9] ?_; generalize hK : VS _ _ _ = KK; simp; (try subst hK)))
    | (refine VS.keepAt 2 [0, 2, 3, 5, 9] ?_; generalize hK : VS _ _ _ = KK; (try simp); (try subst hK); refine VS.region tabOk (id := 2) [] (by kernel_rfl) ?_; generalize hK : VS _ _ _ = KK; simp (maxSteps := 1000000) [hF, dAll, dTbs_at hj, hj]; (try subst hK); try (refine VS.keep [0, 2, 3, 5, 9, 10] ?_; generalize hK : VS _ _ _ = KK; simp; (try subst hK)))
    | (refine VS.keepAt 3 [0, 2, 3, 5, 9, 10] ?_; generalize hK : VS _ _ _ = KK; (try simp); (try subst hK); refine VS.region tabOk (id := 3) [] (by kernel_rfl) ?_; generalize hK : VS _ _ _ = KK; simp (maxSteps := 1000000) [hF, dAll, dTbs_at hj, hj]; (try subst hK); try (refine VS.keep [0, 2, 3, 5, 9, 10, 11] ?_; generalize hK : VS _ _ _ = KK; simp; (try subst hK)))
  refine VS.rounds (fun m st => ∃ (k : Nat), k + m = S.objs[j].names.length ∧
    st = ⟨[(0, .ptr 0 [.d]), (2, avInt n), (3, avInt e), (5, .ptr 1 [.d]), (9, .ptr 0 [.d, .i j]), (10, avInt (atOf name S.objs[j].names k)), (11, avInt k)],
      [dAll S.objs, .box true () (dDeed ⟨3, j, name, word⟩)], [], []⟩) ⟨S.objs[j].names.length, 0, by omega, ?_⟩ ?_
  · have h0 : atOf name S.objs[j].names 0 = -1 := by unfold atOf; rw [if_neg (by omega)]
    simp [dAll, dDeed, h0]
  rintro m st ⟨k, hkm, rfl⟩
  repeat first
    | refine VS.seq ?_
    | (refine VS.keepAt 4 [0, 2, 3, 5, 9, 10, 11] ?_; generalize hK : VS _ _ _ = KK; (try simp); (try subst hK); refine VS.region tabOk (id := 4) [] (by kernel_rfl) ?_; generalize hK : VS _ _ _ = KK; simp (maxSteps := 1000000) [hF, dAll, dTbs_at hj, hj]; (try subst hK); try (refine VS.keep [0, 2, 3, 5, 9, 10, 11, 26] ?_; generalize hK : VS _ _ _ = KK; simp; (try subst hK)))
    | (refine VS.cond ?_; generalize hK1 : VS _ _ _ = KK1; generalize hK2 : VS _ _ _ = KK2; simp (maxSteps := 1000000) [hF, dAll, dTbs_at hj, hj]; (try subst hK1); (try subst hK2))
  refine ⟨fun hlt => ?_, fun hge => ?_⟩
  · have hk : k < S.objs[j].names.length := by omega
    have hn1 := dStrs_nth hk
    repeat first
      | refine VS.seq ?_
      | refine VS.skip ?_
      | refine VS.block ?_
      | (refine VS.keepAt 6 [0, 2, 3, 5, 9, 10, 11] ?_; generalize hK : VS _ _ _ = KK; (try simp); (try subst hK); refine VS.drawn tabOk mixedOk (id := 6) [] [⟨0, 512, 536870912, 5⟩, ⟨1, 536870912, 1073741824, 5⟩, ⟨2, 1073741824, 2147483648, 5⟩, ⟨4, 2147483648, 4294967296, 6⟩, ⟨0, 2048, 8589934592, 5⟩, ⟨24, 12884901888, 17179869184, 5⟩, ⟨32, 17179869184, 34359738368, 6⟩, ⟨0, 32, 68719476736, 5⟩, ⟨128, 68719476736, 137438953472, 6⟩, ⟨320, 171798691840, 274877906944, 5⟩] (.take 0 (.take 1 (.take 2 (.take 3 (.take 4 (.take 5 (.take 6 (.take 7 (.take 8 (.take 9 (.done))))))))))) (.run [0, 1, 2, 3, 4, 5, 6, 7, 8, 9] (.done)) (by kernel_rfl) (by kernel_rfl) (by kernel_rfl) ?_; generalize hK : VS _ _ _ = KK; simp only [opsVc_run, opsVc_both, opsVc_chk, opsVc_done, opsVc_yes, pick_cons, pick_nil, List.getElem?_cons_zero, List.getElem?_cons_succ]; simp (maxSteps := 1000000) [hF, dAll, dTbs_at hj, hj, hk, hn1, dDeed]; (try subst hK); try (refine VS.keep [0, 2, 3, 5, 9, 10, 11, 38] ?_; generalize hK : VS _ _ _ = KK; simp; (try subst hK)))
      | (refine VS.cond ?_; generalize hK1 : VS _ _ _ = KK1; generalize hK2 : VS _ _ _ = KK2; simp (maxSteps := 1000000) [hF, dAll, dTbs_at hj, hj, hk, hn1, dDeed]; (try subst hK1); (try subst hK2))
    refine ⟨fun he => ?_, fun he => ?_⟩
    · repeat first
        | refine VS.nil ?_
        | refine blockN_normal ?_
        | refine loopN_normal ?_
        | (refine VS.keepAt 5 [0, 2, 3, 5, 9, 10, 11] ?_; generalize hK : VS _ _ _ = KK; (try simp); (try subst hK); refine VS.region tabOk (id := 5) [] (by kernel_rfl) ?_; generalize hK : VS _ _ _ = KK; simp (maxSteps := 1000000) [hF]; (try subst hK); try (refine VS.keep [0, 2, 3, 5, 9, 10, 11] ?_; generalize hK : VS _ _ _ = KK; simp; (try subst hK)))
        | (refine VS.keepAt 7 [0, 2, 3, 5, 9, 11] ?_; generalize hK : VS _ _ _ = KK; (try simp); (try subst hK); refine VS.region tabOk (id := 7) [] (by kernel_rfl) ?_; generalize hK : VS _ _ _ = KK; simp (maxSteps := 1000000) [hF]; (try subst hK); try (refine VS.keep [0, 2, 3, 5, 9, 10, 11] ?_; generalize hK : VS _ _ _ = KK; simp; (try subst hK)))
      refine nextK.of [0, 2, 3, 5, 9, 10, 11] [0, 1] (m - 1) (by omega) (by simp [hF]) ?_
      refine ⟨k + 1, by omega, ?_⟩
      simp [dAll, dDeed, atOf_eq hnd hk he]
      exact IntWalk.i64_in _ (by omega)
    · repeat first
        | refine VS.skip ?_
        | refine VS.nil ?_
        | refine blockN_normal ?_
        | refine loopN_normal ?_
        | (refine VS.keepAt 5 [0, 2, 3, 5, 9, 10, 11] ?_; generalize hK : VS _ _ _ = KK; (try simp); (try subst hK); refine VS.region tabOk (id := 5) [] (by kernel_rfl) ?_; generalize hK : VS _ _ _ = KK; simp (maxSteps := 1000000) [hF]; (try subst hK); try (refine VS.keep [0, 2, 3, 5, 9, 10, 11] ?_; generalize hK : VS _ _ _ = KK; simp; (try subst hK)))
      refine nextK.of [0, 2, 3, 5, 9, 10, 11] [0, 1] (m - 1) (by omega) (by simp [hF]) ?_
      refine ⟨k + 1, by omega, ?_⟩
      simp [dAll, dDeed, atOf_ne hk he]
      exact IntWalk.i64_in _ (by omega)
  · obtain rfl : k = S.objs[j].names.length := by omega
    rw [atOf_end]
    have hjl : j < (dTbs S.objs).len := by simpa using hj
    have hplace : 0 ≤ posIn name S.objs[j].names → (posIn name S.objs[j].names).toNat < S.objs[j].words.length ∧ posIn name S.objs[j].names < S.objs[j].words.length ∧ (posIn name S.objs[j].names).toNat < S.objs[j].names.length ∧ posIn name S.objs[j].names < S.objs[j].names.length := fun hpos => by
      obtain ⟨i, hi, h1, _⟩ := posIn_nonneg hpos
      omega
    simp [doOf] at hr
    cases hf : S.objs[j].frozen with
    | true =>
      rw [del_frozen hj hp hn hf] at hr
      cases hr
      repeat first
        | refine VS.seq ?_
        | refine VS.block ?_
        | refine VS.exit ?_
        | (refine VS.keepAt 8 [0, 2, 3, 5, 9, 10] ?_; generalize hK : VS _ _ _ = KK; (try simp); (try subst hK); refine VS.region tabOk (id := 8) [] (by kernel_rfl) ?_; generalize hK : VS _ _ _ = KK; simp (maxSteps := 1000000) [hF, dAll, dDeed, dTbs_at hj, hj, hf]; (try subst hK); try (refine VS.keep [0, 2, 3, 5, 9, 10, 41] ?_; generalize hK : VS _ _ _ = KK; simp; (try subst hK)))
        | (refine VS.keepAt 9 [0, 2, 3, 5, 9, 10, 41] ?_; generalize hK : VS _ _ _ = KK; (try simp); (try subst hK); refine VS.region tabOk (id := 9) [] (by kernel_rfl) ?_; generalize hK : VS _ _ _ = KK; simp (maxSteps := 1000000) [hF, dAll, dDeed, dTbs_at hj, hj, hf]; (try subst hK); try (refine VS.keep [0, 2, 3, 5, 9, 10, 41, 42] ?_; generalize hK : VS _ _ _ = KK; simp; (try subst hK)))
        | (refine VS.keepAt 17 [0, 2, 3, 9, 10, 41] ?_; generalize hK : VS _ _ _ = KK; (try simp); (try subst hK); refine VS.region tabOk (id := 17) [] (by kernel_rfl) ?_; generalize hK : VS _ _ _ = KK; simp (maxSteps := 1000000) [hF, dAll, dDeed, dTbs_at hj, hj, hf]; (try subst hK); try (refine VS.keep [0, 2, 3, 9, 10, 41, 88] ?_; generalize hK : VS _ _ _ = KK; simp; (try subst hK)))
        | (refine VS.keepAt 21 [0, 2, 3, 9, 10, 41] ?_; generalize hK : VS _ _ _ = KK; (try simp); (try subst hK); refine VS.region tabOk (id := 21) [] (by kernel_rfl) ?_; generalize hK : VS _ _ _ = KK; simp (maxSteps := 1000000) [hF, dAll, dDeed, dTbs_at hj, hj, hf]; (try subst hK); try (refine VS.keep [0, 2, 3, 9, 10, 41, 107] ?_; generalize hK : VS _ _ _ = KK; simp; (try subst hK)))
        | (refine VS.keepAt 22 [2, 3, 9, 10] ?_; generalize hK : VS _ _ _ = KK; (try simp); (try subst hK); refine VS.region tabOk (id := 22) [] (by kernel_rfl) ?_; generalize hK : VS _ _ _ = KK; simp (maxSteps := 1000000) [hF, dAll, dDeed, dTbs_at hj, hj, hf]; (try subst hK); try (refine VS.keep [2, 3, 9, 10, 112] ?_; generalize hK : VS _ _ _ = KK; simp; (try subst hK)))
        | (refine VS.keepAt 23 [3] ?_; generalize hK : VS _ _ _ = KK; (try simp); (try subst hK); refine VS.region tabOk (id := 23) [] (by kernel_rfl) ?_; generalize hK : VS _ _ _ = KK; simp (maxSteps := 1000000) [hF, dAll, dDeed, dTbs_at hj, hj, hf]; (try subst hK); try (refine VS.keep [8] ?_; generalize hK : VS _ _ _ = KK; simp; (try subst hK)))
        | (refine VS.cond ?_; generalize hK1 : VS _ _ _ = KK1; generalize hK2 : VS _ _ _ = KK2; simp (maxSteps := 1000000) [hF, dAll, dDeed, dTbs_at hj, hj, hf]; (try subst hK1); (try subst hK2))
      try refine VS.ret ?_
      repeat first | refine blockN_ret ?_ | refine loopN_ret ?_
      refine endK.of [8] [0] [(0, [.d])] (by simp [hF]) (by simp [covers, mpre]) ?_
      simp [hF, retK, dAll]
    | false =>
      by_cases hpos : 0 ≤ posIn name S.objs[j].names
      · obtain ⟨sh, e1, e2⟩ := del_old hS hj hp hn hf hpos
        rw [hr] at e1 e2
        obtain ⟨hlt1, hlt2, hlt3, hlt4⟩ := hplace hpos
        have hnth := dInts_nth hlt1
        have hneg : ¬ posIn name S.objs[j].names < 0 := by omega
        have hgd : S.objs[j].words.getD (posIn name S.objs[j].names).toNat 0 = S.objs[j].words[(posIn name S.objs[j].names).toNat] := by simp [hlt1]
        rw [hgd] at e2
        cases e2
        have hle3 : posIn name S.objs[j].names ≤ (S.objs[j].names.length : Int) := by omega
        have hle4 : posIn name S.objs[j].names ≤ (S.objs[j].words.length : Int) := by omega
        have hwr : IntKind.i64.wrap (posIn name S.objs[j].names + 1) = posIn name S.objs[j].names + 1 := IntWalk.i64_in _ (by omega)
        have hle1 : 0 ≤ posIn name S.objs[j].names + 1 := by omega
        have hle2 : posIn name S.objs[j].names + 1 ≤ (S.objs[j].names.length : Int) := by omega
        have hle5 : posIn name S.objs[j].names + 1 ≤ (S.objs[j].words.length : Int) := by omega
        have htn : (posIn name S.objs[j].names + 1).toNat = (posIn name S.objs[j].names).toNat + 1 := by omega
        have hle6 : (posIn name S.objs[j].names).toNat + 1 ≤ S.objs[j].names.length := by omega
        have hle7 : (posIn name S.objs[j].names).toNat + 1 ≤ S.objs[j].words.length := by omega
        repeat' first
          | refine VS.seq ?_
          | refine VS.skip ?_
          | refine VS.block ?_
          | refine VS.exit ?_
          | refine ⟨⟨by omega, by omega⟩, ?_⟩
          | (refine VS.keepAt 8 [0, 2, 3, 5, 9, 10] ?_; generalize hK : VS _ _ _ = KK; (try simp); (try subst hK); refine VS.region tabOk (id := 8) [] (by kernel_rfl) ?_; generalize hK : VS _ _ _ = KK; simp (maxSteps := 1000000) [hF, dAll, dDeed, dTbs_at hj, hj, hf, hpos, hneg, hlt1, hlt2, hlt3, hlt4, hle6, hle7, T.free_mid (dStrs_free _), T.free_mid (dInts_free _), hle1, hle2, hle3, hle4, hle5, hwr, htn, hnth, T.nth_setN_same _ hjl]; (try subst hK); try (refine VS.keep [0, 2, 3, 5, 9, 10, 41] ?_; generalize hK : VS _ _ _ = KK; simp; (try subst hK)))
          | (refine VS.keepAt 9 [0, 2, 3, 5, 9, 10, 41] ?_; generalize hK : VS _ _ _ = KK; (try simp); (try subst hK); refine VS.region tabOk (id := 9) [] (by kernel_rfl) ?_; generalize hK : VS _ _ _ = KK; simp (maxSteps := 1000000) [hF, dAll, dDeed, dTbs_at hj, hj, hf, hpos, hneg, hlt1, hlt2, hlt3, hlt4, hle6, hle7, T.free_mid (dStrs_free _), T.free_mid (dInts_free _), hle1, hle2, hle3, hle4, hle5, hwr, htn, hnth, T.nth_setN_same _ hjl]; (try subst hK); try (refine VS.keep [0, 2, 3, 5, 9, 10, 41, 42] ?_; generalize hK : VS _ _ _ = KK; simp; (try subst hK)))
          | (refine VS.keepAt 17 [0, 2, 3, 9, 10, 41] ?_; generalize hK : VS _ _ _ = KK; (try simp); (try subst hK); refine VS.region tabOk (id := 17) [] (by kernel_rfl) ?_; generalize hK : VS _ _ _ = KK; simp (maxSteps := 1000000) [hF, dAll, dDeed, dTbs_at hj, hj, hf, hpos, hneg, hlt1, hlt2, hlt3, hlt4, hle6, hle7, T.free_mid (dStrs_free _), T.free_mid (dInts_free _), hle1, hle2, hle3, hle4, hle5, hwr, htn, hnth, T.nth_setN_same _ hjl]; (try subst hK); try (refine VS.keep [0, 2, 3, 9, 10, 41, 88] ?_; generalize hK : VS _ _ _ = KK; simp; (try subst hK)))
          | (refine VS.keepAt 21 [0, 2, 3, 9, 10, 41] ?_; generalize hK : VS _ _ _ = KK; (try simp); (try subst hK); refine VS.region tabOk (id := 21) [] (by kernel_rfl) ?_; generalize hK : VS _ _ _ = KK; simp (maxSteps := 1000000) [hF, dAll, dDeed, dTbs_at hj, hj, hf, hpos, hneg, hlt1, hlt2, hlt3, hlt4, hle6, hle7, T.free_mid (dStrs_free _), T.free_mid (dInts_free _), hle1, hle2, hle3, hle4, hle5, hwr, htn, hnth, T.nth_setN_same _ hjl]; (try subst hK); try (refine VS.keep [0, 2, 3, 9, 10, 41, 107] ?_; generalize hK : VS _ _ _ = KK; simp; (try subst hK)))
          | (refine VS.keepAt 22 [2, 3, 9, 10] ?_; generalize hK : VS _ _ _ = KK; (try simp); (try subst hK); refine VS.region tabOk (id := 22) [] (by kernel_rfl) ?_; generalize hK : VS _ _ _ = KK; simp (maxSteps := 1000000) [hF, dAll, dDeed, dTbs_at hj, hj, hf, hpos, hneg, hlt1, hlt2, hlt3, hlt4, hle6, hle7, T.free_mid (dStrs_free _), T.free_mid (dInts_free _), hle1, hle2, hle3, hle4, hle5, hwr, htn, hnth, T.nth_setN_same _ hjl]; (try subst hK); try (refine VS.keep [2, 3, 9, 10, 112] ?_; generalize hK : VS _ _ _ = KK; simp; (try subst hK)))
          | (refine VS.keepAt 24 [2, 3, 9, 10] ?_; generalize hK : VS _ _ _ = KK; (try simp); (try subst hK); refine VS.region tabOk (id := 24) [] (by kernel_rfl) ?_; generalize hK : VS _ _ _ = KK; simp (maxSteps := 1000000) [hF, dAll, dDeed, dTbs_at hj, hj, hf, hpos, hneg, hlt1, hlt2, hlt3, hlt4, hle6, hle7, T.free_mid (dStrs_free _), T.free_mid (dInts_free _), hle1, hle2, hle3, hle4, hle5, hwr, htn, hnth, T.nth_setN_same _ hjl]; (try subst hK); try (refine VS.keep [2, 3, 9, 10, 116] ?_; generalize hK : VS _ _ _ = KK; simp; (try subst hK)))
          | (refine VS.keepAt 26 [2, 3, 9, 10] ?_; generalize hK : VS _ _ _ = KK; (try simp); (try subst hK); refine VS.region tabOk (id := 26) [] (by kernel_rfl) ?_; generalize hK : VS _ _ _ = KK; simp (maxSteps := 1000000) [hF, dAll, dDeed, dTbs_at hj, hj, hf, hpos, hneg, hlt1, hlt2, hlt3, hlt4, hle6, hle7, T.free_mid (dStrs_free _), T.free_mid (dInts_free _), hle1, hle2, hle3, hle4, hle5, hwr, htn, hnth, T.nth_setN_same _ hjl]; (try subst hK); try (refine VS.keep [2, 3, 9, 10, 12] ?_; generalize hK : VS _ _ _ = KK; simp; (try subst hK)))
          | (refine VS.keepAt 27 [2, 3, 9, 10, 12] ?_; generalize hK : VS _ _ _ = KK; (try simp); (try subst hK); refine VS.drawnE tabOk mixedOk (id := 27) 256 [] [⟨0, 512, 85070591730234615865843651857942052864, 5⟩, ⟨0, 0, 170141183460469231731687303715884105728, 4⟩, ⟨0, 512, 340282366920938463463374607431768211456, 5⟩, ⟨4, 340282366920938463463374607431768211456, 680564733841876926926749214863536422912, 5⟩, ⟨8, 680564733841876926926749214863536422912, 1361129467683753853853498429727072845824, 5⟩, ⟨16, 1361129467683753853853498429727072845824, 2722258935367507707706996859454145691648, 6⟩, ⟨0, 1024, 5444517870735015415413993718908291383296, 5⟩, ⟨96, 8166776806102523123120990578362437074944, 10889035741470030830827987437816582766592, 5⟩, ⟨130, 11059176924930500062559674741532466872320, 21778071482940061661655974875633165533184, 0⟩, ⟨0, 512, 43556142965880123323311949751266331066368, 5⟩, ⟨512, 43556142965880123323311949751266331066368, 87112285931760246646623899502532662132736, 5⟩, ⟨1024, 87112285931760246646623899502532662132736, 174224571863520493293247799005065324265472, 5⟩, ⟨2048, 174224571863520493293247799005065324265472, 348449143727040986586495598010130648530944, 6⟩, ⟨0, 1024, 696898287454081973172991196020261297061888, 5⟩, ⟨8192, 696898287454081973172991196020261297061888, 1393796574908163946345982392040522594123776, 5⟩, ⟨20480, 1742245718635204932932477990050653242654720, 2787593149816327892691964784081045188247552, 5⟩, ⟨33024, 2809371221299267954353620758956678353780736, 5575186299632655785383929568162090376495104, 0⟩, ⟨131071, 85070591730234615865843651857942052864, 11150372599265311570767859136324180752990208, 5⟩, ⟨262143, 11150372599265311570767859136324180752990208, 22300745198530623141535718272648361505980416, 5⟩, ⟨393215, 27875931498163278926919647840810451882475520, 0, 0⟩] (.take 0 (.take 2 (.take 3 (.take 4 (.take 5 (.take 6 (.take 7 (.take 9 (.take 10 (.take 11 (.take 12 (.take 13 (.take 14 (.take 15 (.fork (.alt 1 (.fork (.alt 8 (.fork (.alt 16 (.take 17 (.take 18 (.fork (.alt 19 (.done) (.nil))))) (.nil))) (.nil))) (.nil))))))))))))))))) (.run [0, 2, 3, 4, 5, 6, 7, 9, 10, 11, 12, 13, 14, 15, 1] (.chk 8 (.run [8, 16, 17, 18, 19] (.done)))) (by kernel_rfl) (by kernel_rfl) (by kernel_rfl) ?_; generalize hK : VS _ _ _ = KK; simp only [opsVc_run, opsVc_both, opsVc_chk, opsVc_done, opsVc_yes, pick_cons, pick_nil, List.getElem?_cons_zero, List.getElem?_cons_succ]; simp (maxSteps := 1000000) [hF, dAll, dDeed, dTbs_at hj, hj, hf, hpos, hneg, hlt1, hlt2, hlt3, hlt4, hle6, hle7, T.free_mid (dStrs_free _), T.free_mid (dInts_free _), hle1, hle2, hle3, hle4, hle5, hwr, htn, hnth, T.nth_setN_same _ hjl]; (try subst hK); try (refine VS.keep [2, 3, 9, 10, 12] ?_; generalize hK : VS _ _ _ = KK; simp; (try subst hK)))
          | (refine VS.keepAt 28 [2, 3, 9, 10, 12] ?_; generalize hK : VS _ _ _ = KK; (try simp); (try subst hK); refine VS.drawnE tabOk mixedOk (id := 28) 256 [] [⟨0, 512, 44601490397061246283071436545296723011960832, 5⟩, ⟨0, 0, 89202980794122492566142873090593446023921664, 4⟩, ⟨0, 512, 178405961588244985132285746181186892047843328, 5⟩, ⟨4, 178405961588244985132285746181186892047843328, 356811923176489970264571492362373784095686656, 5⟩, ⟨8, 356811923176489970264571492362373784095686656, 713623846352979940529142984724747568191373312, 5⟩, ⟨16, 713623846352979940529142984724747568191373312, 1427247692705959881058285969449495136382746624, 6⟩, ⟨0, 1024, 2854495385411919762116571938898990272765493248, 5⟩, ⟨96, 4281743078117879643174857908348485409148239872, 5708990770823839524233143877797980545530986496, 5⟩, ⟨130, 5798193751617962016799286750888573991554908160, 11417981541647679048466287755595961091061972992, 0⟩, ⟨0, 512, 22835963083295358096932575511191922182123945984, 5⟩, ⟨512, 22835963083295358096932575511191922182123945984, 45671926166590716193865151022383844364247891968, 5⟩, ⟨1024, 45671926166590716193865151022383844364247891968, 91343852333181432387730302044767688728495783936, 5⟩, ⟨2048, 91343852333181432387730302044767688728495783936, 182687704666362864775460604089535377456991567872, 6⟩, ⟨0, 1024, 365375409332725729550921208179070754913983135744, 5⟩, ⟨8192, 365375409332725729550921208179070754913983135744, 730750818665451459101842416358141509827966271488, 5⟩, ⟨20480, 913438523331814323877303020447676887284957839360, 1461501637330902918203684832716283019655932542976, 5⟩, ⟨33024, 1472919618872550597252151120471878980746994515968, 2923003274661805836407369665432566039311865085952, 0⟩, ⟨131071, 44601490397061246283071436545296723011960832, 5846006549323611672814739330865132078623730171904, 5⟩, ⟨262143, 5846006549323611672814739330865132078623730171904, 11692013098647223345629478661730264157247460343808, 5⟩, ⟨393215, 14615016373309029182036848327162830196559325429760, 0, 0⟩] (.take 0 (.take 2 (.take 3 (.take 4 (.take 5 (.take 6 (.take 7 (.take 9 (.take 10 (.take 11 (.take 12 (.take 13 (.take 14 (.take 15 (.fork (.alt 1 (.fork (.alt 8 (.fork (.alt 16 (.take 17 (.take 18 (.fork (.alt 19 (.done) (.nil))))) (.nil))) (.nil))) (.nil))))))))))))))))) (.run [0, 2, 3, 4, 5, 6, 7, 9, 10, 11, 12, 13, 14, 15, 1] (.chk 8 (.run [8, 16, 17, 18, 19] (.done)))) (by kernel_rfl) (by kernel_rfl) (by kernel_rfl) ?_; generalize hK : VS _ _ _ = KK; simp only [opsVc_run, opsVc_both, opsVc_chk, opsVc_done, opsVc_yes, pick_cons, pick_nil, List.getElem?_cons_zero, List.getElem?_cons_succ]; simp (maxSteps := 1000000) [hF, dAll, dDeed, dTbs_at hj, hj, hf, hpos, hneg, hlt1, hlt2, hlt3, hlt4, hle6, hle7, T.free_mid (dStrs_free _), T.free_mid (dInts_free _), hle1, hle2, hle3, hle4, hle5, hwr, htn, hnth, T.nth_setN_same _ hjl]; (try subst hK); try (refine VS.keep [2, 3, 12] ?_; generalize hK : VS _ _ _ = KK; simp; (try subst hK)))
          | (refine VS.keepAt 29 [2, 3, 12] ?_; generalize hK : VS _ _ _ = KK; (try simp); (try subst hK); refine VS.region tabOk (id := 29) [(2, 166)] (by kernel_rfl) ?_; generalize hK : VS _ _ _ = KK; simp (maxSteps := 1000000) [hF, dAll, dDeed, dTbs_at hj, hj, hf, hpos, hneg, hlt1, hlt2, hlt3, hlt4, hle6, hle7, T.free_mid (dStrs_free _), T.free_mid (dInts_free _), hle1, hle2, hle3, hle4, hle5, hwr, htn, hnth, T.nth_setN_same _ hjl]; (try subst hK); try (refine VS.keep [8] ?_; generalize hK : VS _ _ _ = KK; simp; (try subst hK)))
          | (refine VS.cond ?_; generalize hK1 : VS _ _ _ = KK1; generalize hK2 : VS _ _ _ = KK2; simp (maxSteps := 1000000) [hF, dAll, dDeed, dTbs_at hj, hj, hf, hpos, hneg, hlt1, hlt2, hlt3, hlt4, hle6, hle7, T.free_mid (dStrs_free _), T.free_mid (dInts_free _), hle1, hle2, hle3, hle4, hle5, hwr, htn, hnth, T.nth_setN_same _ hjl]; (try subst hK1); (try subst hK2))
        have e1' : S'.objs = S.objs.set j ⟨sh, S.objs[j].names.eraseIdx (posIn name S.objs[j].names).toNat, S.objs[j].words.eraseIdx (posIn name S.objs[j].names).toNat, S.objs[j].frozen⟩ := e1
        have hset := dTbs_set S.objs j ⟨sh, S.objs[j].names.eraseIdx (posIn name S.objs[j].names).toNat, S.objs[j].words.eraseIdx (posIn name S.objs[j].names).toNat, S.objs[j].frozen⟩
        simp only [hf] at hset e1'
        try refine VS.ret ?_
        repeat first | refine blockN_ret ?_ | refine loopN_ret ?_
        refine endK.of [8] [0] [(0, [.d])] (by simp [hF]) (by simp [covers, mpre]) ?_
        simp [hF, retK, dAll, e1', hset, dStrs_cut hlt3, dInts_cut hlt1]
      · rw [del_none hj hp hn hf hpos] at hr
        have hneg : posIn name S.objs[j].names < 0 := by omega
        cases hr
        repeat first
          | refine VS.seq ?_
          | refine VS.skip ?_
          | refine VS.block ?_
          | refine VS.exit ?_
          | (refine VS.keepAt 8 [0, 2, 3, 5, 9, 10] ?_; generalize hK : VS _ _ _ = KK; (try simp); (try subst hK); refine VS.region tabOk (id := 8) [] (by kernel_rfl) ?_; generalize hK : VS _ _ _ = KK; simp (maxSteps := 1000000) [hF, dAll, dDeed, dTbs_at hj, hj, hf, hpos, hneg]; (try subst hK); try (refine VS.keep [0, 2, 3, 5, 9, 10, 41] ?_; generalize hK : VS _ _ _ = KK; simp; (try subst hK)))
          | (refine VS.keepAt 9 [0, 2, 3, 5, 9, 10, 41] ?_; generalize hK : VS _ _ _ = KK; (try simp); (try subst hK); refine VS.region tabOk (id := 9) [] (by kernel_rfl) ?_; generalize hK : VS _ _ _ = KK; simp (maxSteps := 1000000) [hF, dAll, dDeed, dTbs_at hj, hj, hf, hpos, hneg]; (try subst hK); try (refine VS.keep [0, 2, 3, 5, 9, 10, 41, 42] ?_; generalize hK : VS _ _ _ = KK; simp; (try subst hK)))
          | (refine VS.keepAt 17 [0, 2, 3, 9, 10, 41] ?_; generalize hK : VS _ _ _ = KK; (try simp); (try subst hK); refine VS.region tabOk (id := 17) [] (by kernel_rfl) ?_; generalize hK : VS _ _ _ = KK; simp (maxSteps := 1000000) [hF, dAll, dDeed, dTbs_at hj, hj, hf, hpos, hneg]; (try subst hK); try (refine VS.keep [0, 2, 3, 9, 10, 41, 88] ?_; generalize hK : VS _ _ _ = KK; simp; (try subst hK)))
          | (refine VS.keepAt 21 [0, 2, 3, 9, 10, 41] ?_; generalize hK : VS _ _ _ = KK; (try simp); (try subst hK); refine VS.region tabOk (id := 21) [] (by kernel_rfl) ?_; generalize hK : VS _ _ _ = KK; simp (maxSteps := 1000000) [hF, dAll, dDeed, dTbs_at hj, hj, hf, hpos, hneg]; (try subst hK); try (refine VS.keep [0, 2, 3, 9, 10, 41, 107] ?_; generalize hK : VS _ _ _ = KK; simp; (try subst hK)))
          | (refine VS.keepAt 22 [2, 3, 9, 10] ?_; generalize hK : VS _ _ _ = KK; (try simp); (try subst hK); refine VS.region tabOk (id := 22) [] (by kernel_rfl) ?_; generalize hK : VS _ _ _ = KK; simp (maxSteps := 1000000) [hF, dAll, dDeed, dTbs_at hj, hj, hf, hpos, hneg]; (try subst hK); try (refine VS.keep [2, 3, 9, 10, 112] ?_; generalize hK : VS _ _ _ = KK; simp; (try subst hK)))
          | (refine VS.keepAt 24 [2, 3, 9, 10] ?_; generalize hK : VS _ _ _ = KK; (try simp); (try subst hK); refine VS.region tabOk (id := 24) [] (by kernel_rfl) ?_; generalize hK : VS _ _ _ = KK; simp (maxSteps := 1000000) [hF, dAll, dDeed, dTbs_at hj, hj, hf, hpos, hneg]; (try subst hK); try (refine VS.keep [2, 3, 9, 10, 116] ?_; generalize hK : VS _ _ _ = KK; simp; (try subst hK)))
          | (refine VS.keepAt 25 [3] ?_; generalize hK : VS _ _ _ = KK; (try simp); (try subst hK); refine VS.region tabOk (id := 25) [] (by kernel_rfl) ?_; generalize hK : VS _ _ _ = KK; simp (maxSteps := 1000000) [hF, dAll, dDeed, dTbs_at hj, hj, hf, hpos, hneg]; (try subst hK); try (refine VS.keep [8] ?_; generalize hK : VS _ _ _ = KK; simp; (try subst hK)))
          | (refine VS.cond ?_; generalize hK1 : VS _ _ _ = KK1; generalize hK2 : VS _ _ _ = KK2; simp (maxSteps := 1000000) [hF, dAll, dDeed, dTbs_at hj, hj, hf, hpos, hneg]; (try subst hK1); (try subst hK2))
        try refine VS.ret ?_
        repeat first | refine blockN_ret ?_ | refine loopN_ret ?_
        refine endK.of [8] [0] [(0, [.d])] (by simp [hF]) (by simp [covers, mpre]) ?_
        simp [hF, retK, dAll]
end Go.Proofs.Ythcndkpkkaphoaa

/- A deed (4) with tables. -/
namespace Go.Proofs.Ythcndkpkkaphoaa
set_option linter.all false
open Go.Vc Go.Proofs
set_option linter.unusedSimpArgs false
set_option maxRecDepth 100000
set_option maxHeartbeats 4000000
attribute [local irreducible] CallW EqK

/- cabochon/cabochonlaw20.played1 -/
theorem played1_4 (S : Sp) (hp : 0 < S.shapes.length) {N : Nat} (hS : WF S N) (hN : N < 1000000) (hG : Good S) (d : Deed) (j : Nat) (hj : j < S.objs.length) (hd : d.obj = j) (hn : namedB d.name = true) (hop : d.op = 4) :
    Meets Try.prog 26 [dAll S.objs] (.cons (.ptr 0 [.d]) (.cons (avDeed d) (.cons (avInt (doOf S d).2.1) (.cons (avInt (doOf S d).2.2) .nil))))
    fun av X κ => av = .val (.bool true) ∧ X = [dAll (doOf S d).1.objs] ∧ κ = [(0, [.d])] := by
  obtain ⟨op, ob, name, word⟩ := d
  simp only at hd hn hop
  subst hd
  subst hop
  have ho := hS.ob _ (List.getElem_mem hj)
  have hnl := ho.names_len
  have hwl := ho.1
  have hno := hS.no
  obtain ⟨hnd, _⟩ := hG _ (List.getElem_mem hj)
  unfold avDeed
  generalize hr : doOf S ⟨4, j, name, word⟩ = r
  obtain ⟨S', n, e⟩ := r
  simp only
  refine Meets.of_vs tabOk Try.func26 (body := ?_) ?_ (by kernel_rfl) Try.ntmps26 (rs := [.tmp 8]) (by kernel_rfl) rfl (by simp [AV.len]) (by simp only [envOf]; exact rfl) ?_
  rotate_left
  · rfl
  intro w0 I0 F0 hF
  repeat first
    | refine VS.seq ?_
    | refine VS.block ?_
    | (refine VS.keepAt 0 [0, 1, 2, 3] ?_; generalize hK : VS _ _ _ = KK; (try simp); (try subst hK); refine VS.region tabOk (id := 0) [] (by kernel_rfl) ?_; generalize hK : VS _ _ _ = KK; simp (maxSteps := 1000000) [hF, dAll, dTbs_at hj, hj]; (try subst hK); try (refine VS.keep [0, 2, 3, 5] ?_; generalize hK : VS _ _ _ = KK; simp; (try subst hK)))
    | (refine VS.keepAt 1 [0, 2, 3, 5] ?_; generalize hK : VS _ _ _ = KK; (try simp); (try subst hK); refine VS.drawn tabOk mixedOk (id := 1) [] [⟨0, 1, 16384, 5⟩, ⟨1, 16384, 32768, 5⟩, ⟨2, 32768, 65536, 6⟩, ⟨0, 32, 131072, 5⟩, ⟨8, 131072, 262144, 6⟩, ⟨20, 327680, 524288, 5⟩, ⟨63, 524288, 512, 5⟩] (.take 0 (.take 1 (.take 2 (.take 3 (.take 4 (.take 5 (.take 6 (.done)))))))) (.run [0, 1, 2, 3, 4, 5, 6] (.done)) (by kernel_rfl) (by kernel_rfl) (by kernel_rfl) ?_; generalize hK : VS _ _ _ = KK; simp only [opsVc_run, opsVc_both, opsVc_chk, opsVc_done, opsVc_yes, pick_cons, pick_nil, List.getElem?_cons_zero, List.getElem?_cons_succ]; simp (maxSteps := 1000000) [hF, dAll, dTbs_at hj, hj]; (try subst hK); try (refine VS.keep [0, 2, 3, 5, 9] ?_; generalize hK : VS _ _ _ = KK; simp; (try subst hK)))
    | (refine VS.keepAt 2 [0, 2, 3, 5, 9] ?_; generalize hK : VS _ _ _ = KK; (try simp); (try subst hK); refine VS.region tabOk (id := 2) [] (by kernel_rfl) ?_; generalize hK : VS _ _ _ = KK; simp (maxSteps := 1000000) [hF, dAll, dTbs_at hj, hj]; (try subst hK); try (refine VS.keep [0, 2, 3, 5, 9, 10] ?_; generalize hK : VS _ _ _ = KK; simp; (try subst hK)))
    | (refine VS.keepAt 3 [0, 2, 3, 5, 9, 10] ?_; generalize hK : VS _ _ _ = KK; (try simp); (try subst hK); refine VS.region tabOk (id := 3) [] (by kernel_rfl) ?_; generalize hK : VS _ _ _ = KK; simp (maxSteps := 1000000) [hF, dAll, dTbs_at hj, hj]; (try subst hK); try (refine VS.keep [0, 2, 3, 5, 9, 10, 11] ?_; generalize hK : VS _ _ _ = KK; simp; (try subst hK)))
  refine VS.rounds (fun m st => ∃ (k : Nat), k + m = S.objs[j].names.length ∧
    st = ⟨[(0, .ptr 0 [.d]), (2, avInt n), (3, avInt e), (5, .ptr 1 [.d]), (9, .ptr 0 [.d, .i j]), (10, avInt (atOf name S.objs[j].names k)), (11, avInt k)],
      [dAll S.objs, .box true () (dDeed ⟨4, j, name, word⟩)], [], []⟩) ⟨S.objs[j].names.length, 0, by omega, ?_⟩ ?_
  · have h0 : atOf name S.objs[j].names 0 = -1 := by unfold atOf; rw [if_neg (by omega)]
    simp [dAll, dDeed, h0]
  rintro m st ⟨k, hkm, rfl⟩
  repeat first
    | refine VS.seq ?_
    | (refine VS.keepAt 4 [0, 2, 3, 5, 9, 10, 11] ?_; generalize hK : VS _ _ _ = KK; (try simp); (try subst hK); refine VS.region tabOk (id := 4) [] (by kernel_rfl) ?_; generalize hK : VS _ _ _ = KK; simp (maxSteps := 1000000) [hF, dAll, dTbs_at hj, hj]; (try subst hK); try (refine VS.keep [0, 2, 3, 5, 9, 10, 11, 26] ?_; generalize hK : VS _ _ _ = KK; simp; (try subst hK)))
    | (refine VS.cond ?_; generalize hK1 : VS _ _ _ = KK1; generalize hK2 : VS _ _ _ = KK2; simp (maxSteps := 1000000) [hF, dAll, dTbs_at hj, hj]; (try subst hK1); (try subst hK2))
  refine ⟨fun hlt => ?_, fun hge => ?_⟩
  · have hk : k < S.objs[j].names.length := by omega
    have hn1 := dStrs_nth hk
    repeat first
      | refine VS.seq ?_
      | refine VS.skip ?_
      | refine VS.block ?_
      | (refine VS.keepAt 6 [0, 2, 3, 5, 9, 10, 11] ?_; generalize hK : VS _ _ _ = KK; (try simp); (try subst hK); refine VS.drawn tabOk mixedOk (id := 6) [] [⟨0, 512, 536870912, 5⟩, ⟨1, 536870912, 1073741824, 5⟩, ⟨2, 1073741824, 2147483648, 5⟩, ⟨4, 2147483648, 4294967296, 6⟩, ⟨0, 2048, 8589934592, 5⟩, ⟨24, 12884901888, 17179869184, 5⟩, ⟨32, 17179869184, 34359738368, 6⟩, ⟨0, 32, 68719476736, 5⟩, ⟨128, 68719476736, 137438953472, 6⟩, ⟨320, 171798691840, 274877906944, 5⟩] (.take 0 (.take 1 (.take 2 (.take 3 (.take 4 (.take 5 (.take 6 (.take 7 (.take 8 (.take 9 (.done))))))))))) (.run [0, 1, 2, 3, 4, 5, 6, 7, 8, 9] (.done)) (by kernel_rfl) (by kernel_rfl) (by kernel_rfl) ?_; generalize hK : VS _ _ _ = KK; simp only [opsVc_run, opsVc_both, opsVc_chk, opsVc_done, opsVc_yes, pick_cons, pick_nil, List.getElem?_cons_zero, List.getElem?_cons_succ]; simp (maxSteps := 1000000) [hF, dAll, dTbs_at hj, hj, hk, hn1, dDeed]; (try subst hK); try (refine VS.keep [0, 2, 3, 5, 9, 10, 11, 38] ?_; generalize hK : VS _ _ _ = KK; simp; (try subst hK)))
      | (refine VS.cond ?_; generalize hK1 : VS _ _ _ = KK1; generalize hK2 : VS _ _ _ = KK2; simp (maxSteps := 1000000) [hF, dAll, dTbs_at hj, hj, hk, hn1, dDeed]; (try subst hK1); (try subst hK2))
    refine ⟨fun he => ?_, fun he => ?_⟩
    · repeat first
        | refine VS.nil ?_
        | refine blockN_normal ?_
        | refine loopN_normal ?_
        | (refine VS.keepAt 5 [0, 2, 3, 5, 9, 10, 11] ?_; generalize hK : VS _ _ _ = KK; (try simp); (try subst hK); refine VS.region tabOk (id := 5) [] (by kernel_rfl) ?_; generalize hK : VS _ _ _ = KK; simp (maxSteps := 1000000) [hF]; (try subst hK); try (refine VS.keep [0, 2, 3, 5, 9, 10, 11] ?_; generalize hK : VS _ _ _ = KK; simp; (try subst hK)))
        | (refine VS.keepAt 7 [0, 2, 3, 5, 9, 11] ?_; generalize hK : VS _ _ _ = KK; (try simp); (try subst hK); refine VS.region tabOk (id := 7) [] (by kernel_rfl) ?_; generalize hK : VS _ _ _ = KK; simp (maxSteps := 1000000) [hF]; (try subst hK); try (refine VS.keep [0, 2, 3, 5, 9, 10, 11] ?_; generalize hK : VS _ _ _ = KK; simp; (try subst hK)))
      refine nextK.of [0, 2, 3, 5, 9, 10, 11] [0, 1] (m - 1) (by omega) (by simp [hF]) ?_
      refine ⟨k + 1, by omega, ?_⟩
      simp [dAll, dDeed, atOf_eq hnd hk he]
      exact IntWalk.i64_in _ (by omega)
    · repeat first
        | refine VS.skip ?_
        | refine VS.nil ?_
        | refine blockN_normal ?_
        | refine loopN_normal ?_
        | (refine VS.keepAt 5 [0, 2, 3, 5, 9, 10, 11] ?_; generalize hK : VS _ _ _ = KK; (try simp); (try subst hK); refine VS.region tabOk (id := 5) [] (by kernel_rfl) ?_; generalize hK : VS _ _ _ = KK; simp (maxSteps := 1000000) [hF]; (try subst hK); try (refine VS.keep [0, 2, 3, 5, 9, 10, 11] ?_; generalize hK : VS _ _ _ = KK; simp; (try subst hK)))
      refine nextK.of [0, 2, 3, 5, 9, 10, 11] [0, 1] (m - 1) (by omega) (by simp [hF]) ?_
      refine ⟨k + 1, by omega, ?_⟩
      simp [dAll, dDeed, atOf_ne hk he]
      exact IntWalk.i64_in _ (by omega)
  · obtain rfl : k = S.objs[j].names.length := by omega
    rw [atOf_end]
    have hjl : j < (dTbs S.objs).len := by simpa using hj
    have hplace : 0 ≤ posIn name S.objs[j].names → (posIn name S.objs[j].names).toNat < S.objs[j].words.length ∧ posIn name S.objs[j].names < S.objs[j].words.length ∧ (posIn name S.objs[j].names).toNat < S.objs[j].names.length ∧ posIn name S.objs[j].names < S.objs[j].names.length := fun hpos => by
      obtain ⟨i, hi, h1, _⟩ := posIn_nonneg hpos
      omega
    obtain ⟨e1, e2⟩ := freeze_has hj hp
    simp [doOf] at hr
    obtain ⟨r1, r2, r3⟩ := hr
    rw [e2] at r3
    rw [r1] at e1
    subst r2; subst r3
    have hset := dTbs_set S.objs j { S.objs[j] with frozen := true }
    repeat first
      | refine VS.seq ?_
      | refine VS.block ?_
      | refine VS.exit ?_
      | (refine VS.keepAt 8 [0, 2, 3, 5, 9, 10] ?_; generalize hK : VS _ _ _ = KK; (try simp); (try subst hK); refine VS.region tabOk (id := 8) [] (by kernel_rfl) ?_; generalize hK : VS _ _ _ = KK; simp (maxSteps := 1000000) [hF, dAll, dDeed, dTbs_at hj, hj]; (try subst hK); try (refine VS.keep [0, 2, 3, 5, 9, 10, 41] ?_; generalize hK : VS _ _ _ = KK; simp; (try subst hK)))
      | (refine VS.keepAt 9 [0, 2, 3, 5, 9, 10, 41] ?_; generalize hK : VS _ _ _ = KK; (try simp); (try subst hK); refine VS.region tabOk (id := 9) [] (by kernel_rfl) ?_; generalize hK : VS _ _ _ = KK; simp (maxSteps := 1000000) [hF, dAll, dDeed, dTbs_at hj, hj]; (try subst hK); try (refine VS.keep [0, 2, 3, 5, 9, 10, 41, 42] ?_; generalize hK : VS _ _ _ = KK; simp; (try subst hK)))
      | (refine VS.keepAt 17 [0, 2, 3, 9, 10, 41] ?_; generalize hK : VS _ _ _ = KK; (try simp); (try subst hK); refine VS.region tabOk (id := 17) [] (by kernel_rfl) ?_; generalize hK : VS _ _ _ = KK; simp (maxSteps := 1000000) [hF, dAll, dDeed, dTbs_at hj, hj]; (try subst hK); try (refine VS.keep [0, 2, 3, 9, 10, 41, 88] ?_; generalize hK : VS _ _ _ = KK; simp; (try subst hK)))
      | (refine VS.keepAt 21 [0, 2, 3, 9, 10, 41] ?_; generalize hK : VS _ _ _ = KK; (try simp); (try subst hK); refine VS.region tabOk (id := 21) [] (by kernel_rfl) ?_; generalize hK : VS _ _ _ = KK; simp (maxSteps := 1000000) [hF, dAll, dDeed, dTbs_at hj, hj]; (try subst hK); try (refine VS.keep [0, 2, 3, 9, 10, 41, 107] ?_; generalize hK : VS _ _ _ = KK; simp; (try subst hK)))
      | (refine VS.keepAt 30 [0, 2, 3, 9, 41] ?_; generalize hK : VS _ _ _ = KK; (try simp); (try subst hK); refine VS.region tabOk (id := 30) [] (by kernel_rfl) ?_; generalize hK : VS _ _ _ = KK; simp (maxSteps := 1000000) [hF, dAll, dDeed, dTbs_at hj, hj]; (try subst hK); try (refine VS.keep [0, 2, 3, 9, 41, 171] ?_; generalize hK : VS _ _ _ = KK; simp; (try subst hK)))
      | (refine VS.keepAt 31 [3, 9] ?_; generalize hK : VS _ _ _ = KK; (try simp); (try subst hK); refine VS.region tabOk (id := 31) [] (by kernel_rfl) ?_; generalize hK : VS _ _ _ = KK; simp (maxSteps := 1000000) [hF, dAll, dDeed, dTbs_at hj, hj]; (try subst hK); try (refine VS.keep [3] ?_; generalize hK : VS _ _ _ = KK; simp; (try subst hK)))
      | (refine VS.keepAt 32 [3] ?_; generalize hK : VS _ _ _ = KK; (try simp); (try subst hK); refine VS.region tabOk (id := 32) [] (by kernel_rfl) ?_; generalize hK : VS _ _ _ = KK; simp (maxSteps := 1000000) [hF, dAll, dDeed, dTbs_at hj, hj]; (try subst hK); try (refine VS.keep [8] ?_; generalize hK : VS _ _ _ = KK; simp; (try subst hK)))
      | (refine VS.cond ?_; generalize hK1 : VS _ _ _ = KK1; generalize hK2 : VS _ _ _ = KK2; simp (maxSteps := 1000000) [hF, dAll, dDeed, dTbs_at hj, hj]; (try subst hK1); (try subst hK2))
    try refine VS.ret ?_
    repeat first | refine blockN_ret ?_ | refine loopN_ret ?_
    refine endK.of [8] [0] [(0, [.d])] (by simp [hF]) (by simp [covers, mpre]) ?_
    simp [hF, retK, dAll, e1, hset]
end Go.Proofs.Ythcndkpkkaphoaa

/- A deed (5) with tables. -/
namespace Go.Proofs.Ythcndkpkkaphoaa
set_option linter.all false
open Go.Vc Go.Proofs
set_option linter.unusedSimpArgs false
set_option maxRecDepth 100000
set_option maxHeartbeats 4000000
attribute [local irreducible] CallW EqK

/- cabochon/cabochonlaw20.played1 -/
theorem played1_5 (S : Sp) (hp : 0 < S.shapes.length) {N : Nat} (hS : WF S N) (hN : N < 1000000) (hG : Good S) (d : Deed) (j : Nat) (hj : j < S.objs.length) (hd : d.obj = j) (hn : namedB d.name = true) (hop : d.op = 5) :
    Meets Try.prog 26 [dAll S.objs] (.cons (.ptr 0 [.d]) (.cons (avDeed d) (.cons (avInt (doOf S d).2.1) (.cons (avInt (doOf S d).2.2) .nil))))
    fun av X κ => av = .val (.bool true) ∧ X = [dAll (doOf S d).1.objs] ∧ κ = [(0, [.d])] := by
  obtain ⟨op, ob, name, word⟩ := d
  simp only at hd hn hop
  subst hd
  subst hop
  have ho := hS.ob _ (List.getElem_mem hj)
  have hnl := ho.names_len
  have hwl := ho.1
  have hno := hS.no
  obtain ⟨hnd, _⟩ := hG _ (List.getElem_mem hj)
  unfold avDeed
  generalize hr : doOf S ⟨5, j, name, word⟩ = r
  obtain ⟨S', n, e⟩ := r
  simp only
  refine Meets.of_vs tabOk Try.func26 (body := ?_) ?_ (by kernel_rfl) Try.ntmps26 (rs := [.tmp 8]) (by kernel_rfl) rfl (by simp [AV.len]) (by simp only [envOf]; exact rfl) ?_
  rotate_left
  · rfl
  intro w0 I0 F0 hF
  repeat first
    | refine VS.seq ?_
    | refine VS.block ?_
    | (refine VS.keepAt 0 [0, 1, 2, 3] ?_; generalize hK : VS _ _ _ = KK; (try simp); (try subst hK); refine VS.region tabOk (id := 0) [] (by kernel_rfl) ?_; generalize hK : VS _ _ _ = KK; simp (maxSteps := 1000000) [hF, dAll, dTbs_at hj, hj]; (try subst hK); try (refine VS.keep [0, 2, 3, 5] ?_; generalize hK : VS _ _ _ = KK; simp; (try subst hK)))
    | (refine VS.keepAt 1 [0, 2, 3, 5] ?_; generalize hK : VS _ _ _ = KK; (try simp); (try subst hK); refine VS.drawn tabOk mixedOk (id := 1) [] [⟨0, 1, 16384, 5⟩, ⟨1, 16384, 32768, 5⟩, ⟨2, 32768, 65536, 6⟩, ⟨0, 32, 131072, 5⟩, ⟨8, 131072, 262144, 6⟩, ⟨20, 327680, 524288, 5⟩, ⟨63, 524288, 512, 5⟩] (.take 0 (.take 1 (.take 2 (.take 3 (.take 4 (.take 5 (.take 6 (.done)))))))) (.run [0, 1, 2, 3, 4, 5, 6] (.done)) (by kernel_rfl) (by kernel_rfl) (by kernel_rfl) ?_; generalize hK : VS _ _ _ = KK; simp only [opsVc_run, opsVc_both, opsVc_chk, opsVc_done, opsVc_yes, pick_cons, pick_nil, List.getElem?_cons_zero, List.getElem?_cons_succ]; simp (maxSteps := 1000000) [hF, dAll, dTbs_at hj, hj]; (try subst hK); try (refine VS.keep [0, 2, 3, 5, 9] ?_; generalize hK : VS _ _ _ = KK; simp; (try subst hK)))
    | (refine VS.keepAt 2 [0, 2, 3, 5, 9] ?_; generalize hK : VS _ _ _ = KK; (try simp); (try subst hK); refine VS.region tabOk (id := 2) [] (by kernel_rfl) ?_; generalize hK : VS _ _ _ = KK; simp (maxSteps := 1000000) [hF, dAll, dTbs_at hj, hj]; (try subst hK); try (refine VS.keep [0, 2, 3, 5, 9, 10] ?_; generalize hK : VS _ _ _ = KK; simp; (try subst hK)))
    | (refine VS.keepAt 3 [0, 2, 3, 5, 9, 10] ?_; generalize hK : VS _ _ _ = KK; (try simp); (try subst hK); refine VS.region tabOk (id := 3) [] (by kernel_rfl) ?_; generalize hK : VS _ _ _ = KK; simp (maxSteps := 1000000) [hF, dAll, dTbs_at hj, hj]; (try subst hK); try (refine VS.keep [0, 2, 3, 5, 9, 10, 11] ?_; generalize hK : VS _ _ _ = KK; simp; (try subst hK)))
  refine VS.rounds (fun m st => ∃ (k : Nat), k + m = S.objs[j].names.length ∧
    st = ⟨[(0, .ptr 0 [.d]), (2, avInt n), (3, avInt e), (5, .ptr 1 [.d]), (9, .ptr 0 [.d, .i j]), (10, avInt (atOf name S.objs[j].names k)), (11, avInt k)],
      [dAll S.objs, .box true () (dDeed ⟨5, j, name, word⟩)], [], []⟩) ⟨S.objs[j].names.length, 0, by omega, ?_⟩ ?_
  · have h0 : atOf name S.objs[j].names 0 = -1 := by unfold atOf; rw [if_neg (by omega)]
    simp [dAll, dDeed, h0]
  rintro m st ⟨k, hkm, rfl⟩
  repeat first
    | refine VS.seq ?_
    | (refine VS.keepAt 4 [0, 2, 3, 5, 9, 10, 11] ?_; generalize hK : VS _ _ _ = KK; (try simp); (try subst hK); refine VS.region tabOk (id := 4) [] (by kernel_rfl) ?_; generalize hK : VS _ _ _ = KK; simp (maxSteps := 1000000) [hF, dAll, dTbs_at hj, hj]; (try subst hK); try (refine VS.keep [0, 2, 3, 5, 9, 10, 11, 26] ?_; generalize hK : VS _ _ _ = KK; simp; (try subst hK)))
    | (refine VS.cond ?_; generalize hK1 : VS _ _ _ = KK1; generalize hK2 : VS _ _ _ = KK2; simp (maxSteps := 1000000) [hF, dAll, dTbs_at hj, hj]; (try subst hK1); (try subst hK2))
  refine ⟨fun hlt => ?_, fun hge => ?_⟩
  · have hk : k < S.objs[j].names.length := by omega
    have hn1 := dStrs_nth hk
    repeat first
      | refine VS.seq ?_
      | refine VS.skip ?_
      | refine VS.block ?_
      | (refine VS.keepAt 6 [0, 2, 3, 5, 9, 10, 11] ?_; generalize hK : VS _ _ _ = KK; (try simp); (try subst hK); refine VS.drawn tabOk mixedOk (id := 6) [] [⟨0, 512, 536870912, 5⟩, ⟨1, 536870912, 1073741824, 5⟩, ⟨2, 1073741824, 2147483648, 5⟩, ⟨4, 2147483648, 4294967296, 6⟩, ⟨0, 2048, 8589934592, 5⟩, ⟨24, 12884901888, 17179869184, 5⟩, ⟨32, 17179869184, 34359738368, 6⟩, ⟨0, 32, 68719476736, 5⟩, ⟨128, 68719476736, 137438953472, 6⟩, ⟨320, 171798691840, 274877906944, 5⟩] (.take 0 (.take 1 (.take 2 (.take 3 (.take 4 (.take 5 (.take 6 (.take 7 (.take 8 (.take 9 (.done))))))))))) (.run [0, 1, 2, 3, 4, 5, 6, 7, 8, 9] (.done)) (by kernel_rfl) (by kernel_rfl) (by kernel_rfl) ?_; generalize hK : VS _ _ _ = KK; simp only [opsVc_run, opsVc_both, opsVc_chk, opsVc_done, opsVc_yes, pick_cons, pick_nil, List.getElem?_cons_zero, List.getElem?_cons_succ]; simp (maxSteps := 1000000) [hF, dAll, dTbs_at hj, hj, hk, hn1, dDeed]; (try subst hK); try (refine VS.keep [0, 2, 3, 5, 9, 10, 11, 38] ?_; generalize hK : VS _ _ _ = KK; simp; (try subst hK)))
      | (refine VS.cond ?_; generalize hK1 : VS _ _ _ = KK1; generalize hK2 : VS _ _ _ = KK2; simp (maxSteps := 1000000) [hF, dAll, dTbs_at hj, hj, hk, hn1, dDeed]; (try subst hK1); (try subst hK2))
    refine ⟨fun he => ?_, fun he => ?_⟩
    · repeat first
        | refine VS.nil ?_
        | refine blockN_normal ?_
        | refine loopN_normal ?_
        | (refine VS.keepAt 5 [0, 2, 3, 5, 9, 10, 11] ?_; generalize hK : VS _ _ _ = KK; (try simp); (try subst hK); refine VS.region tabOk (id := 5) [] (by kernel_rfl) ?_; generalize hK : VS _ _ _ = KK; simp (maxSteps := 1000000) [hF]; (try subst hK); try (refine VS.keep [0, 2, 3, 5, 9, 10, 11] ?_; generalize hK : VS _ _ _ = KK; simp; (try subst hK)))
        | (refine VS.keepAt 7 [0, 2, 3, 5, 9, 11] ?_; generalize hK : VS _ _ _ = KK; (try simp); (try subst hK); refine VS.region tabOk (id := 7) [] (by kernel_rfl) ?_; generalize hK : VS _ _ _ = KK; simp (maxSteps := 1000000) [hF]; (try subst hK); try (refine VS.keep [0, 2, 3, 5, 9, 10, 11] ?_; generalize hK : VS _ _ _ = KK; simp; (try subst hK)))
      refine nextK.of [0, 2, 3, 5, 9, 10, 11] [0, 1] (m - 1) (by omega) (by simp [hF]) ?_
      refine ⟨k + 1, by omega, ?_⟩
      simp [dAll, dDeed, atOf_eq hnd hk he]
      exact IntWalk.i64_in _ (by omega)
    · repeat first
        | refine VS.skip ?_
        | refine VS.nil ?_
        | refine blockN_normal ?_
        | refine loopN_normal ?_
        | (refine VS.keepAt 5 [0, 2, 3, 5, 9, 10, 11] ?_; generalize hK : VS _ _ _ = KK; (try simp); (try subst hK); refine VS.region tabOk (id := 5) [] (by kernel_rfl) ?_; generalize hK : VS _ _ _ = KK; simp (maxSteps := 1000000) [hF]; (try subst hK); try (refine VS.keep [0, 2, 3, 5, 9, 10, 11] ?_; generalize hK : VS _ _ _ = KK; simp; (try subst hK)))
      refine nextK.of [0, 2, 3, 5, 9, 10, 11] [0, 1] (m - 1) (by omega) (by simp [hF]) ?_
      refine ⟨k + 1, by omega, ?_⟩
      simp [dAll, dDeed, atOf_ne hk he]
      exact IntWalk.i64_in _ (by omega)
  · obtain rfl : k = S.objs[j].names.length := by omega
    rw [atOf_end]
    have hjl : j < (dTbs S.objs).len := by simpa using hj
    have hplace : 0 ≤ posIn name S.objs[j].names → (posIn name S.objs[j].names).toNat < S.objs[j].words.length ∧ posIn name S.objs[j].names < S.objs[j].words.length ∧ (posIn name S.objs[j].names).toNat < S.objs[j].names.length ∧ posIn name S.objs[j].names < S.objs[j].names.length := fun hpos => by
      obtain ⟨i, hi, h1, _⟩ := posIn_nonneg hpos
      omega
    simp [doOf] at hr
    by_cases hfull : 100 ≤ S.objs.length
    · rw [clone_full hj hp hfull] at hr
      cases hr
      repeat first
        | refine VS.seq ?_
        | refine VS.block ?_
        | refine VS.exit ?_
        | (refine VS.keepAt 8 [0, 2, 3, 5, 9, 10] ?_; generalize hK : VS _ _ _ = KK; (try simp); (try subst hK); refine VS.region tabOk (id := 8) [] (by kernel_rfl) ?_; generalize hK : VS _ _ _ = KK; simp (maxSteps := 1000000) [hF, dAll, dDeed, dTbs_at hj, hj]; (try subst hK); try (refine VS.keep [0, 2, 3, 5, 9, 10, 41] ?_; generalize hK : VS _ _ _ = KK; simp; (try subst hK)))
        | (refine VS.keepAt 9 [0, 2, 3, 5, 9, 10, 41] ?_; generalize hK : VS _ _ _ = KK; (try simp); (try subst hK); refine VS.region tabOk (id := 9) [] (by kernel_rfl) ?_; generalize hK : VS _ _ _ = KK; simp (maxSteps := 1000000) [hF, dAll, dDeed, dTbs_at hj, hj]; (try subst hK); try (refine VS.keep [0, 2, 3, 5, 9, 10, 41, 42] ?_; generalize hK : VS _ _ _ = KK; simp; (try subst hK)))
        | (refine VS.keepAt 17 [0, 2, 3, 9, 10, 41] ?_; generalize hK : VS _ _ _ = KK; (try simp); (try subst hK); refine VS.region tabOk (id := 17) [] (by kernel_rfl) ?_; generalize hK : VS _ _ _ = KK; simp (maxSteps := 1000000) [hF, dAll, dDeed, dTbs_at hj, hj]; (try subst hK); try (refine VS.keep [0, 2, 3, 9, 10, 41, 88] ?_; generalize hK : VS _ _ _ = KK; simp; (try subst hK)))
        | (refine VS.keepAt 21 [0, 2, 3, 9, 10, 41] ?_; generalize hK : VS _ _ _ = KK; (try simp); (try subst hK); refine VS.region tabOk (id := 21) [] (by kernel_rfl) ?_; generalize hK : VS _ _ _ = KK; simp (maxSteps := 1000000) [hF, dAll, dDeed, dTbs_at hj, hj]; (try subst hK); try (refine VS.keep [0, 2, 3, 9, 10, 41, 107] ?_; generalize hK : VS _ _ _ = KK; simp; (try subst hK)))
        | (refine VS.keepAt 30 [0, 2, 3, 9, 41] ?_; generalize hK : VS _ _ _ = KK; (try simp); (try subst hK); refine VS.region tabOk (id := 30) [] (by kernel_rfl) ?_; generalize hK : VS _ _ _ = KK; simp (maxSteps := 1000000) [hF, dAll, dDeed, dTbs_at hj, hj]; (try subst hK); try (refine VS.keep [0, 2, 3, 9, 41, 171] ?_; generalize hK : VS _ _ _ = KK; simp; (try subst hK)))
        | (refine VS.keepAt 33 [0, 2, 3, 9, 41] ?_; generalize hK : VS _ _ _ = KK; (try simp); (try subst hK); refine VS.region tabOk (id := 33) [] (by kernel_rfl) ?_; generalize hK : VS _ _ _ = KK; simp (maxSteps := 1000000) [hF, dAll, dDeed, dTbs_at hj, hj]; (try subst hK); try (refine VS.keep [0, 2, 3, 9, 178] ?_; generalize hK : VS _ _ _ = KK; simp; (try subst hK)))
        | (refine VS.keepAt 34 [0, 2, 3, 9] ?_; generalize hK : VS _ _ _ = KK; (try simp); (try subst hK); refine VS.region tabOk (id := 34) [] (by kernel_rfl) ?_; generalize hK : VS _ _ _ = KK; simp (maxSteps := 1000000) [hF, dAll, dDeed, dTbs_at hj, hj]; (try subst hK); try (refine VS.keep [0, 2, 3, 9, 181] ?_; generalize hK : VS _ _ _ = KK; simp; (try subst hK)))
        | (refine VS.keepAt 35 [3] ?_; generalize hK : VS _ _ _ = KK; (try simp); (try subst hK); refine VS.region tabOk (id := 35) [] (by kernel_rfl) ?_; generalize hK : VS _ _ _ = KK; simp (maxSteps := 1000000) [hF, dAll, dDeed, dTbs_at hj, hj]; (try subst hK); try (refine VS.keep [8] ?_; generalize hK : VS _ _ _ = KK; simp; (try subst hK)))
        | (refine VS.cond ?_; generalize hK1 : VS _ _ _ = KK1; generalize hK2 : VS _ _ _ = KK2; simp (maxSteps := 1000000) [hF, dAll, dDeed, dTbs_at hj, hj]; (try subst hK1); (try subst hK2))
      try refine VS.ret ?_
      repeat first | refine blockN_ret ?_ | refine loopN_ret ?_
      refine endK.of [8] [0] [(0, [.d])] (by simp [hF]) (by simp [covers, mpre]) ?_
      simp [hF, retK, dAll]
    · obtain ⟨e1, e2⟩ := clone_new hj hp hfull
      rw [hr] at e1 e2
      cases e2
      have hpush := dTbs_push S.objs { S.objs[j] with frozen := false }
      have e1' : S'.objs = S.objs ++ [{ S.objs[j] with frozen := false }] := e1
      have hmid : (dTbs (S.objs ++ [{ S.objs[j] with frozen := false }])).mid 0 (S.objs.length + 1) = dTbs (S.objs ++ [{ S.objs[j] with frozen := false }]) := sq_mid_all _ _ (by simp)
      have hw1 : IntKind.i64.wrap (S.objs.length : Int) = (S.objs.length : Int) := IntWalk.i64_in _ (by omega)
      have hw2 : IntKind.i64.wrap (((S.objs.length + 1 : Nat) : Int) - 1) = (S.objs.length : Int) := by
        have : (((S.objs.length + 1 : Nat) : Int) - 1) = (S.objs.length : Int) := by omega
        rw [this]; exact hw1
      repeat' first
        | refine VS.seq ?_
        | refine VS.skip ?_
        | refine VS.block ?_
        | refine VS.exit ?_
        | refine ⟨⟨by omega, by omega⟩, ?_⟩
        | (refine VS.keepAt 8 [0, 2, 3, 5, 9, 10] ?_; generalize hK : VS _ _ _ = KK; (try simp); (try subst hK); refine VS.region tabOk (id := 8) [] (by kernel_rfl) ?_; generalize hK : VS _ _ _ = KK; simp (maxSteps := 1000000) [hF, dAll, dDeed, dTbs_at hj, hj]; (try subst hK); try (refine VS.keep [0, 2, 3, 5, 9, 10, 41] ?_; generalize hK : VS _ _ _ = KK; simp; (try subst hK)))
        | (refine VS.keepAt 9 [0, 2, 3, 5, 9, 10, 41] ?_; generalize hK : VS _ _ _ = KK; (try simp); (try subst hK); refine VS.region tabOk (id := 9) [] (by kernel_rfl) ?_; generalize hK : VS _ _ _ = KK; simp (maxSteps := 1000000) [hF, dAll, dDeed, dTbs_at hj, hj]; (try subst hK); try (refine VS.keep [0, 2, 3, 5, 9, 10, 41, 42] ?_; generalize hK : VS _ _ _ = KK; simp; (try subst hK)))
        | (refine VS.keepAt 17 [0, 2, 3, 9, 10, 41] ?_; generalize hK : VS _ _ _ = KK; (try simp); (try subst hK); refine VS.region tabOk (id := 17) [] (by kernel_rfl) ?_; generalize hK : VS _ _ _ = KK; simp (maxSteps := 1000000) [hF, dAll, dDeed, dTbs_at hj, hj]; (try subst hK); try (refine VS.keep [0, 2, 3, 9, 10, 41, 88] ?_; generalize hK : VS _ _ _ = KK; simp; (try subst hK)))
        | (refine VS.keepAt 21 [0, 2, 3, 9, 10, 41] ?_; generalize hK : VS _ _ _ = KK; (try simp); (try subst hK); refine VS.region tabOk (id := 21) [] (by kernel_rfl) ?_; generalize hK : VS _ _ _ = KK; simp (maxSteps := 1000000) [hF, dAll, dDeed, dTbs_at hj, hj]; (try subst hK); try (refine VS.keep [0, 2, 3, 9, 10, 41, 107] ?_; generalize hK : VS _ _ _ = KK; simp; (try subst hK)))
        | (refine VS.keepAt 30 [0, 2, 3, 9, 41] ?_; generalize hK : VS _ _ _ = KK; (try simp); (try subst hK); refine VS.region tabOk (id := 30) [] (by kernel_rfl) ?_; generalize hK : VS _ _ _ = KK; simp (maxSteps := 1000000) [hF, dAll, dDeed, dTbs_at hj, hj]; (try subst hK); try (refine VS.keep [0, 2, 3, 9, 41, 171] ?_; generalize hK : VS _ _ _ = KK; simp; (try subst hK)))
        | (refine VS.keepAt 33 [0, 2, 3, 9, 41] ?_; generalize hK : VS _ _ _ = KK; (try simp); (try subst hK); refine VS.region tabOk (id := 33) [] (by kernel_rfl) ?_; generalize hK : VS _ _ _ = KK; simp (maxSteps := 1000000) [hF, dAll, dDeed, dTbs_at hj, hj]; (try subst hK); try (refine VS.keep [0, 2, 3, 9, 178] ?_; generalize hK : VS _ _ _ = KK; simp; (try subst hK)))
        | (refine VS.keepAt 34 [0, 2, 3, 9] ?_; generalize hK : VS _ _ _ = KK; (try simp); (try subst hK); refine VS.region tabOk (id := 34) [] (by kernel_rfl) ?_; generalize hK : VS _ _ _ = KK; simp (maxSteps := 1000000) [hF, dAll, dDeed, dTbs_at hj, hj]; (try subst hK); try (refine VS.keep [0, 2, 3, 9, 181] ?_; generalize hK : VS _ _ _ = KK; simp; (try subst hK)))
        | (refine VS.keepAt 36 [0, 2, 9] ?_; generalize hK : VS _ _ _ = KK; (try simp); (try subst hK); refine VS.drawnE tabOk mixedOk (id := 36) 2080 [] [⟨0, 0, 24519928653854221733733552434404946937899825954937634816, 4⟩, ⟨0, 512, 49039857307708443467467104868809893875799651909875269632, 5⟩, ⟨2, 49039857307708443467467104868809893875799651909875269632, 98079714615416886934934209737619787751599303819750539264, 5⟩, ⟨4, 98079714615416886934934209737619787751599303819750539264, 196159429230833773869868419475239575503198607639501078528, 5⟩, ⟨8, 196159429230833773869868419475239575503198607639501078528, 392318858461667547739736838950479151006397215279002157056, 6⟩, ⟨17, 416838787115521769473470391384884097944297041233939791872, 784637716923335095479473677900958302012794430558004314112, 0⟩, ⟨0, 0, 1569275433846670190958947355801916604025588861116008628224, 4⟩, ⟨0, 512, 3138550867693340381917894711603833208051177722232017256448, 5⟩, ⟨128, 3138550867693340381917894711603833208051177722232017256448, 6277101735386680763835789423207666416102355444464034512896, 5⟩, ⟨256, 6277101735386680763835789423207666416102355444464034512896, 12554203470773361527671578846415332832204710888928069025792, 5⟩, ⟨512, 12554203470773361527671578846415332832204710888928069025792, 25108406941546723055343157692830665664409421777856138051584, 6⟩, ⟨1120, 26677682375393393246302105048632582268435010638972146679808, 50216813883093446110686315385661331328818843555712276103168, 0⟩, ⟨2080, 51001451600016781206165789063562289630831637986270280417280, 100433627766186892221372630771322662657637687111424552206336, 5⟩, ⟨0, 0, 8192, 4⟩, ⟨16383, 100433627766186892221372630771322662657637687111424552214528, 0, 0⟩] (.take 1 (.take 2 (.take 3 (.take 4 (.take 7 (.take 8 (.take 9 (.take 10 (.fork (.alt 0 (.fork (.alt 5 (.fork (.alt 6 (.fork (.alt 11 (.take 12 (.fork (.alt 13 (.fork (.alt 14 (.done) (.nil))) (.nil)))) (.alt 13 (.fork (.alt 11 (.take 12 (.fork (.alt 14 (.done) (.nil)))) (.nil))) (.nil)))) (.alt 13 (.fork (.alt 6 (.fork (.alt 11 (.take 12 (.fork (.alt 14 (.done) (.nil)))) (.nil))) (.nil))) (.nil)))) (.alt 6 (.fork (.alt 5 (.fork (.alt 11 (.take 12 (.fork (.alt 13 (.fork (.alt 14 (.done) (.nil))) (.nil)))) (.alt 13 (.fork (.alt 11 (.take 12 (.fork (.alt 14 (.done) (.nil)))) (.nil))) (.nil)))) (.alt 13 (.fork (.alt 5 (.fork (.alt 11 (.take 12 (.fork (.alt 14 (.done) (.nil)))) (.nil))) (.nil))) (.nil)))) (.alt 13 (.fork (.alt 5 (.fork (.alt 6 (.fork (.alt 11 (.take 12 (.fork (.alt 14 (.done) (.nil)))) (.nil))) (.nil))) (.alt 6 (.fork (.alt 5 (.fork (.alt 11 (.take 12 (.fork (.alt 14 (.done) (.nil)))) (.nil))) (.nil))) (.nil)))) (.nil))))) (.alt 6 (.fork (.alt 0 (.fork (.alt 5 (.fork (.alt 11 (.take 12 (.fork (.alt 13 (.fork (.alt 14 (.done) (.nil))) (.nil)))) (.alt 13 (.fork (.alt 11 (.take 12 (.fork (.alt 14 (.done) (.nil)))) (.nil))) (.nil)))) (.alt 13 (.fork (.alt 5 (.fork (.alt 11 (.take 12 (.fork (.alt 14 (.done) (.nil)))) (.nil))) (.nil))) (.nil)))) (.alt 13 (.fork (.alt 0 (.fork (.alt 5 (.fork (.alt 11 (.take 12 (.fork (.alt 14 (.done) (.nil)))) (.nil))) (.nil))) (.nil))) (.nil)))) (.alt 13 (.fork (.alt 0 (.fork (.alt 5 (.fork (.alt 6 (.fork (.alt 11 (.take 12 (.fork (.alt 14 (.done) (.nil)))) (.nil))) (.nil))) (.alt 6 (.fork (.alt 5 (.fork (.alt 11 (.take 12 (.fork (.alt 14 (.done) (.nil)))) (.nil))) (.nil))) (.nil)))) (.alt 6 (.fork (.alt 0 (.fork (.alt 5 (.fork (.alt 11 (.take 12 (.fork (.alt 14 (.done) (.nil)))) (.nil))) (.nil))) (.nil))) (.nil)))) (.nil))))))))))))) (.run [1, 2, 3, 4, 7, 8, 9, 10] (.both (.run [0] (.both (.chk 5 (.run [5] (.both (.run [6] (.both (.chk 11 (.run [11, 12, 13, 14] (.done))) (.run [13] (.chk 11 (.run [11, 12, 14] (.done)))))) (.run [13, 6] (.chk 11 (.run [11, 12, 14] (.done))))))) (.both (.run [6] (.both (.chk 5 (.run [5] (.both (.chk 11 (.run [11, 12, 13, 14] (.done))) (.run [13] (.chk 11 (.run [11, 12, 14] (.done))))))) (.run [13] (.chk 5 (.run [5] (.chk 11 (.run [11, 12, 14] (.done)))))))) (.run [13] (.both (.chk 5 (.run [5, 6] (.chk 11 (.run [11, 12, 14] (.done))))) (.run [6] (.chk 5 (.run [5] (.chk 11 (.run [11, 12, 14] (.done))))))))))) (.both (.run [6] (.both (.run [0] (.both (.chk 5 (.run [5] (.both (.chk 11 (.run [11, 12, 13, 14] (.done))) (.run [13] (.chk 11 (.run [11, 12, 14] (.done))))))) (.run [13] (.chk 5 (.run [5] (.chk 11 (.run [11, 12, 14] (.done)))))))) (.run [13, 0] (.chk 5 (.run [5] (.chk 11 (.run [11, 12, 14] (.done)))))))) (.run [13] (.both (.run [0] (.both (.chk 5 (.run [5, 6] (.chk 11 (.run [11, 12, 14] (.done))))) (.run [6] (.chk 5 (.run [5] (.chk 11 (.run [11, 12, 14] (.done)))))))) (.run [6, 0] (.chk 5 (.run [5] (.chk 11 (.run [11, 12, 14] (.done))))))))))) (by kernel_rfl) (by kernel_rfl) (by kernel_rfl) ?_; generalize hK : VS _ _ _ = KK; simp only [opsVc_run, opsVc_both, opsVc_chk, opsVc_done, opsVc_yes, pick_cons, pick_nil, List.getElem?_cons_zero, List.getElem?_cons_succ]; simp (maxSteps := 1000000) [hF, dAll, dDeed, dTbs_at hj, hj]; (try subst hK); try (refine VS.keep [0, 2, 13] ?_; generalize hK : VS _ _ _ = KK; simp; (try subst hK)))
        | (refine VS.cond ?_; generalize hK1 : VS _ _ _ = KK1; generalize hK2 : VS _ _ _ = KK2; simp (maxSteps := 1000000) [hF, dAll, dDeed, dTbs_at hj, hj]; (try subst hK1); (try subst hK2))
        | refine And.intro ?_ ?_
      · refine VS.pick [0, 2, 13] [0, 4] (by simp [hF]) ?_
        generalize hK : VS _ _ _ = KK; simp [hF]; (try subst hK)
        refine VS.lift 0 [.d] (by simp (maxSteps := 1000000) [hF, dAll]) (by simp (maxSteps := 1000000) [hF, dAll]) (by simp [isNode, dAll]) (by simp (maxSteps := 1000000) [hF, dAll]) ?_
        generalize hK : VS _ _ _ = KK; simp [hF, St.lift, AV.lift, liftPl, stripP, nodeAV, dAll]; (try subst hK)
        refine VS.lift 1 [.d, .f 0] (by simp (maxSteps := 1000000) [hF]) (by simp (maxSteps := 1000000) [hF]) (by simp [isNode]) (by simp (maxSteps := 1000000) [hF]) ?_
        generalize hK : VS _ _ _ = KK; simp [hF, St.lift, AV.lift, liftPl, stripP, nodeAV]; (try subst hK)
        refine VS.lift 1 [.d, .f 1] (by simp (maxSteps := 1000000) [hF]) (by simp (maxSteps := 1000000) [hF]) (by simp [isNode]) (by simp (maxSteps := 1000000) [hF]) ?_
        generalize hK : VS _ _ _ = KK; simp [hF, St.lift, AV.lift, liftPl, stripP, nodeAV]; (try subst hK)
        repeat first
          | refine VS.seq ?_
          | refine ⟨⟨by omega, by omega⟩, ?_⟩
          | (refine VS.keepAt 37 [0, 2, 13] ?_; generalize hK : VS _ _ _ = KK; (try simp); (try subst hK); refine VS.drawn tabOk mixedOk (id := 37) [] [⟨0, 1, 200867255532373784442745261542645325315275374222849104412672, 5⟩, ⟨0, 1, 401734511064747568885490523085290650630550748445698208825344, 5⟩, ⟨2, 401734511064747568885490523085290650630550748445698208825344, 803469022129495137770981046170581301261101496891396417650688, 5⟩, ⟨4, 803469022129495137770981046170581301261101496891396417650688, 1606938044258990275541962092341162602522202993782792835301376, 6⟩, ⟨0, 8192, 3213876088517980551083924184682325205044405987565585670602752, 6⟩, ⟨16, 3213876088517980551083924184682325205044405987565585670602752, 6427752177035961102167848369364650410088811975131171341205504, 4⟩, ⟨40, 8034690221294951377709810461705813012611014968913964176506880, 12855504354071922204335696738729300820177623950262342682411008, 0⟩, ⟨127, 200867255532373784442745261542645325315275374222849104412672, 25711008708143844408671393477458601640355247900524685364822016, 5⟩, ⟨255, 38566513062215766613007090216187902460532871850787028047233024, 0, 0⟩] (.take 0 (.take 1 (.take 2 (.take 3 (.take 4 (.fork (.alt 5 (.fork (.alt 6 (.take 7 (.fork (.alt 8 (.done) (.nil)))) (.nil))) (.nil)))))))) (.run [0, 1, 2, 3, 4, 5, 6, 7, 8] (.done)) (by kernel_rfl) (by kernel_rfl) (by kernel_rfl) ?_; generalize hK : VS _ _ _ = KK; simp only [opsVc_run, opsVc_both, opsVc_chk, opsVc_done, opsVc_yes, pick_cons, pick_nil, List.getElem?_cons_zero, List.getElem?_cons_succ]; simp (maxSteps := 1000000) [hF, dAll, dDeed, dTbs_at hj, hj, hpush]; (try subst hK); try (refine VS.keep [0, 2] ?_; generalize hK : VS _ _ _ = KK; simp; (try subst hK)))
          | (refine VS.keepAt 38 [0, 2] ?_; generalize hK : VS _ _ _ = KK; (try simp); (try subst hK); refine VS.region tabOk (id := 38) [] (by kernel_rfl) ?_; generalize hK : VS _ _ _ = KK; simp (maxSteps := 1000000) [hF, dAll, dDeed, dTbs_at hj, hj, hpush]; (try subst hK); try (refine VS.keep [8] ?_; generalize hK : VS _ _ _ = KK; simp; (try subst hK)))
        try refine VS.ret ?_
        repeat first | refine blockN_ret ?_ | refine loopN_ret ?_
        refine endK.of [8] [0] [(0, [.d])] (by simp [hF]) (by simp [covers, mpre]) ?_
        simp [hF, retK, dAll, e1', hmid, hw1, hw2]
      · refine VS.pick [0, 2, 13] [0, 4] (by simp [hF]) ?_
        generalize hK : VS _ _ _ = KK; simp [hF]; (try subst hK)
        refine VS.lift 0 [.d] (by simp (maxSteps := 1000000) [hF, dAll]) (by simp (maxSteps := 1000000) [hF, dAll]) (by simp [isNode, dAll]) (by simp (maxSteps := 1000000) [hF, dAll]) ?_
        generalize hK : VS _ _ _ = KK; simp [hF, St.lift, AV.lift, liftPl, stripP, nodeAV, dAll]; (try subst hK)
        refine VS.lift 1 [.d, .f 0] (by simp (maxSteps := 1000000) [hF]) (by simp (maxSteps := 1000000) [hF]) (by simp [isNode]) (by simp (maxSteps := 1000000) [hF]) ?_
        generalize hK : VS _ _ _ = KK; simp [hF, St.lift, AV.lift, liftPl, stripP, nodeAV]; (try subst hK)
        refine VS.lift 1 [.d, .f 1] (by simp (maxSteps := 1000000) [hF]) (by simp (maxSteps := 1000000) [hF]) (by simp [isNode]) (by simp (maxSteps := 1000000) [hF]) ?_
        generalize hK : VS _ _ _ = KK; simp [hF, St.lift, AV.lift, liftPl, stripP, nodeAV]; (try subst hK)
        repeat first
          | refine VS.seq ?_
          | refine ⟨⟨by omega, by omega⟩, ?_⟩
          | (refine VS.keepAt 37 [0, 2, 13] ?_; generalize hK : VS _ _ _ = KK; (try simp); (try subst hK); refine VS.drawn tabOk mixedOk (id := 37) [] [⟨0, 1, 200867255532373784442745261542645325315275374222849104412672, 5⟩, ⟨0, 1, 401734511064747568885490523085290650630550748445698208825344, 5⟩, ⟨2, 401734511064747568885490523085290650630550748445698208825344, 803469022129495137770981046170581301261101496891396417650688, 5⟩, ⟨4, 803469022129495137770981046170581301261101496891396417650688, 1606938044258990275541962092341162602522202993782792835301376, 6⟩, ⟨0, 8192, 3213876088517980551083924184682325205044405987565585670602752, 6⟩, ⟨16, 3213876088517980551083924184682325205044405987565585670602752, 6427752177035961102167848369364650410088811975131171341205504, 4⟩, ⟨40, 8034690221294951377709810461705813012611014968913964176506880, 12855504354071922204335696738729300820177623950262342682411008, 0⟩, ⟨127, 200867255532373784442745261542645325315275374222849104412672, 25711008708143844408671393477458601640355247900524685364822016, 5⟩, ⟨255, 38566513062215766613007090216187902460532871850787028047233024, 0, 0⟩] (.take 0 (.take 1 (.take 2 (.take 3 (.take 4 (.fork (.alt 5 (.fork (.alt 6 (.take 7 (.fork (.alt 8 (.done) (.nil)))) (.nil))) (.nil)))))))) (.run [0, 1, 2, 3, 4, 5, 6, 7, 8] (.done)) (by kernel_rfl) (by kernel_rfl) (by kernel_rfl) ?_; generalize hK : VS _ _ _ = KK; simp only [opsVc_run, opsVc_both, opsVc_chk, opsVc_done, opsVc_yes, pick_cons, pick_nil, List.getElem?_cons_zero, List.getElem?_cons_succ]; simp (maxSteps := 1000000) [hF, dAll, dDeed, dTbs_at hj, hj, hpush]; (try subst hK); try (refine VS.keep [0, 2] ?_; generalize hK : VS _ _ _ = KK; simp; (try subst hK)))
          | (refine VS.keepAt 38 [0, 2] ?_; generalize hK : VS _ _ _ = KK; (try simp); (try subst hK); refine VS.region tabOk (id := 38) [] (by kernel_rfl) ?_; generalize hK : VS _ _ _ = KK; simp (maxSteps := 1000000) [hF, dAll, dDeed, dTbs_at hj, hj, hpush]; (try subst hK); try (refine VS.keep [8] ?_; generalize hK : VS _ _ _ = KK; simp; (try subst hK)))
        try refine VS.ret ?_
        repeat first | refine blockN_ret ?_ | refine loopN_ret ?_
        refine endK.of [8] [0] [(0, [.d])] (by simp [hF]) (by simp [covers, mpre]) ?_
        simp [hF, retK, dAll, e1', hmid, hw1, hw2]
      · refine VS.pick [0, 2, 13] [0, 3] (by simp [hF]) ?_
        generalize hK : VS _ _ _ = KK; simp [hF]; (try subst hK)
        refine VS.lift 0 [.d] (by simp (maxSteps := 1000000) [hF, dAll]) (by simp (maxSteps := 1000000) [hF, dAll]) (by simp [isNode, dAll]) (by simp (maxSteps := 1000000) [hF, dAll]) ?_
        generalize hK : VS _ _ _ = KK; simp [hF, St.lift, AV.lift, liftPl, stripP, nodeAV, dAll]; (try subst hK)
        refine VS.lift 1 [.d, .f 0] (by simp (maxSteps := 1000000) [hF]) (by simp (maxSteps := 1000000) [hF]) (by simp [isNode]) (by simp (maxSteps := 1000000) [hF]) ?_
        generalize hK : VS _ _ _ = KK; simp [hF, St.lift, AV.lift, liftPl, stripP, nodeAV]; (try subst hK)
        refine VS.lift 1 [.d, .f 1] (by simp (maxSteps := 1000000) [hF]) (by simp (maxSteps := 1000000) [hF]) (by simp [isNode]) (by simp (maxSteps := 1000000) [hF]) ?_
        generalize hK : VS _ _ _ = KK; simp [hF, St.lift, AV.lift, liftPl, stripP, nodeAV]; (try subst hK)
        repeat first
          | refine VS.seq ?_
          | refine ⟨⟨by omega, by omega⟩, ?_⟩
          | (refine VS.keepAt 37 [0, 2, 13] ?_; generalize hK : VS _ _ _ = KK; (try simp); (try subst hK); refine VS.drawn tabOk mixedOk (id := 37) [] [⟨0, 1, 200867255532373784442745261542645325315275374222849104412672, 5⟩, ⟨0, 1, 401734511064747568885490523085290650630550748445698208825344, 5⟩, ⟨2, 401734511064747568885490523085290650630550748445698208825344, 803469022129495137770981046170581301261101496891396417650688, 5⟩, ⟨4, 803469022129495137770981046170581301261101496891396417650688, 1606938044258990275541962092341162602522202993782792835301376, 6⟩, ⟨0, 8192, 3213876088517980551083924184682325205044405987565585670602752, 6⟩, ⟨16, 3213876088517980551083924184682325205044405987565585670602752, 6427752177035961102167848369364650410088811975131171341205504, 4⟩, ⟨40, 8034690221294951377709810461705813012611014968913964176506880, 12855504354071922204335696738729300820177623950262342682411008, 0⟩, ⟨127, 200867255532373784442745261542645325315275374222849104412672, 25711008708143844408671393477458601640355247900524685364822016, 5⟩, ⟨255, 38566513062215766613007090216187902460532871850787028047233024, 0, 0⟩] (.take 0 (.take 1 (.take 2 (.take 3 (.take 4 (.fork (.alt 5 (.fork (.alt 6 (.take 7 (.fork (.alt 8 (.done) (.nil)))) (.nil))) (.nil)))))))) (.run [0, 1, 2, 3, 4, 5, 6, 7, 8] (.done)) (by kernel_rfl) (by kernel_rfl) (by kernel_rfl) ?_; generalize hK : VS _ _ _ = KK; simp only [opsVc_run, opsVc_both, opsVc_chk, opsVc_done, opsVc_yes, pick_cons, pick_nil, List.getElem?_cons_zero, List.getElem?_cons_succ]; simp (maxSteps := 1000000) [hF, dAll, dDeed, dTbs_at hj, hj, hpush]; (try subst hK); try (refine VS.keep [0, 2] ?_; generalize hK : VS _ _ _ = KK; simp; (try subst hK)))
          | (refine VS.keepAt 38 [0, 2] ?_; generalize hK : VS _ _ _ = KK; (try simp); (try subst hK); refine VS.region tabOk (id := 38) [] (by kernel_rfl) ?_; generalize hK : VS _ _ _ = KK; simp (maxSteps := 1000000) [hF, dAll, dDeed, dTbs_at hj, hj, hpush]; (try subst hK); try (refine VS.keep [8] ?_; generalize hK : VS _ _ _ = KK; simp; (try subst hK)))
        try refine VS.ret ?_
        repeat first | refine blockN_ret ?_ | refine loopN_ret ?_
        refine endK.of [8] [0] [(0, [.d])] (by simp [hF]) (by simp [covers, mpre]) ?_
        simp [hF, retK, dAll, e1', hmid, hw1, hw2]
      · refine VS.pick [0, 2, 13] [0, 4] (by simp [hF]) ?_
        generalize hK : VS _ _ _ = KK; simp [hF]; (try subst hK)
        refine VS.lift 0 [.d] (by simp (maxSteps := 1000000) [hF, dAll]) (by simp (maxSteps := 1000000) [hF, dAll]) (by simp [isNode, dAll]) (by simp (maxSteps := 1000000) [hF, dAll]) ?_
        generalize hK : VS _ _ _ = KK; simp [hF, St.lift, AV.lift, liftPl, stripP, nodeAV, dAll]; (try subst hK)
        refine VS.lift 1 [.d, .f 0] (by simp (maxSteps := 1000000) [hF]) (by simp (maxSteps := 1000000) [hF]) (by simp [isNode]) (by simp (maxSteps := 1000000) [hF]) ?_
        generalize hK : VS _ _ _ = KK; simp [hF, St.lift, AV.lift, liftPl, stripP, nodeAV]; (try subst hK)
        refine VS.lift 1 [.d, .f 1] (by simp (maxSteps := 1000000) [hF]) (by simp (maxSteps := 1000000) [hF]) (by simp [isNode]) (by simp (maxSteps := 1000000) [hF]) ?_
        generalize hK : VS _ _ _ = KK; simp [hF, St.lift, AV.lift, liftPl, stripP, nodeAV]; (try subst hK)
        repeat first
          | refine VS.seq ?_
          | refine ⟨⟨by omega, by omega⟩, ?_⟩
          | (refine VS.keepAt 37 [0, 2, 13] ?_; generalize hK : VS _ _ _ = KK; (try simp); (try subst hK); refine VS.drawn tabOk mixedOk (id := 37) [] [⟨0, 1, 200867255532373784442745261542645325315275374222849104412672, 5⟩, ⟨0, 1, 401734511064747568885490523085290650630550748445698208825344, 5⟩, ⟨2, 401734511064747568885490523085290650630550748445698208825344, 803469022129495137770981046170581301261101496891396417650688, 5⟩, ⟨4, 803469022129495137770981046170581301261101496891396417650688, 1606938044258990275541962092341162602522202993782792835301376, 6⟩, ⟨0, 8192, 3213876088517980551083924184682325205044405987565585670602752, 6⟩, ⟨16, 3213876088517980551083924184682325205044405987565585670602752, 6427752177035961102167848369364650410088811975131171341205504, 4⟩, ⟨40, 8034690221294951377709810461705813012611014968913964176506880, 12855504354071922204335696738729300820177623950262342682411008, 0⟩, ⟨127, 200867255532373784442745261542645325315275374222849104412672, 25711008708143844408671393477458601640355247900524685364822016, 5⟩, ⟨255, 38566513062215766613007090216187902460532871850787028047233024, 0, 0⟩] (.take 0 (.take 1 (.take 2 (.take 3 (.take 4 (.fork (.alt 5 (.fork (.alt 6 (.take 7 (.fork (.alt 8 (.done) (.nil)))) (.nil))) (.nil)))))))) (.run [0, 1, 2, 3, 4, 5, 6, 7, 8] (.done)) (by kernel_rfl) (by kernel_rfl) (by kernel_rfl) ?_; generalize hK : VS _ _ _ = KK; simp only [opsVc_run, opsVc_both, opsVc_chk, opsVc_done, opsVc_yes, pick_cons, pick_nil, List.getElem?_cons_zero, List.getElem?_cons_succ]; simp (maxSteps := 1000000) [hF, dAll, dDeed, dTbs_at hj, hj, hpush]; (try subst hK); try (refine VS.keep [0, 2] ?_; generalize hK : VS _ _ _ = KK; simp; (try subst hK)))
          | (refine VS.keepAt 38 [0, 2] ?_; generalize hK : VS _ _ _ = KK; (try simp); (try subst hK); refine VS.region tabOk (id := 38) [] (by kernel_rfl) ?_; generalize hK : VS _ _ _ = KK; simp (maxSteps := 1000000) [hF, dAll, dDeed, dTbs_at hj, hj, hpush]; (try subst hK); try (refine VS.keep [8] ?_; generalize hK : VS _ _ _ = KK; simp; (try subst hK)))
        try refine VS.ret ?_
        repeat first | refine blockN_ret ?_ | refine loopN_ret ?_
        refine endK.of [8] [0] [(0, [.d])] (by simp [hF]) (by simp [covers, mpre]) ?_
        simp [hF, retK, dAll, e1', hmid, hw1, hw2]
      · refine VS.pick [0, 2, 13] [0, 4] (by simp [hF]) ?_
        generalize hK : VS _ _ _ = KK; simp [hF]; (try subst hK)
        refine VS.lift 0 [.d] (by simp (maxSteps := 1000000) [hF, dAll]) (by simp (maxSteps := 1000000) [hF, dAll]) (by simp [isNode, dAll]) (by simp (maxSteps := 1000000) [hF, dAll]) ?_
        generalize hK : VS _ _ _ = KK; simp [hF, St.lift, AV.lift, liftPl, stripP, nodeAV, dAll]; (try subst hK)
        refine VS.lift 1 [.d, .f 0] (by simp (maxSteps := 1000000) [hF]) (by simp (maxSteps := 1000000) [hF]) (by simp [isNode]) (by simp (maxSteps := 1000000) [hF]) ?_
        generalize hK : VS _ _ _ = KK; simp [hF, St.lift, AV.lift, liftPl, stripP, nodeAV]; (try subst hK)
        refine VS.lift 1 [.d, .f 1] (by simp (maxSteps := 1000000) [hF]) (by simp (maxSteps := 1000000) [hF]) (by simp [isNode]) (by simp (maxSteps := 1000000) [hF]) ?_
        generalize hK : VS _ _ _ = KK; simp [hF, St.lift, AV.lift, liftPl, stripP, nodeAV]; (try subst hK)
        repeat first
          | refine VS.seq ?_
          | refine ⟨⟨by omega, by omega⟩, ?_⟩
          | (refine VS.keepAt 37 [0, 2, 13] ?_; generalize hK : VS _ _ _ = KK; (try simp); (try subst hK); refine VS.drawn tabOk mixedOk (id := 37) [] [⟨0, 1, 200867255532373784442745261542645325315275374222849104412672, 5⟩, ⟨0, 1, 401734511064747568885490523085290650630550748445698208825344, 5⟩, ⟨2, 401734511064747568885490523085290650630550748445698208825344, 803469022129495137770981046170581301261101496891396417650688, 5⟩, ⟨4, 803469022129495137770981046170581301261101496891396417650688, 1606938044258990275541962092341162602522202993782792835301376, 6⟩, ⟨0, 8192, 3213876088517980551083924184682325205044405987565585670602752, 6⟩, ⟨16, 3213876088517980551083924184682325205044405987565585670602752, 6427752177035961102167848369364650410088811975131171341205504, 4⟩, ⟨40, 8034690221294951377709810461705813012611014968913964176506880, 12855504354071922204335696738729300820177623950262342682411008, 0⟩, ⟨127, 200867255532373784442745261542645325315275374222849104412672, 25711008708143844408671393477458601640355247900524685364822016, 5⟩, ⟨255, 38566513062215766613007090216187902460532871850787028047233024, 0, 0⟩] (.take 0 (.take 1 (.take 2 (.take 3 (.take 4 (.fork (.alt 5 (.fork (.alt 6 (.take 7 (.fork (.alt 8 (.done) (.nil)))) (.nil))) (.nil)))))))) (.run [0, 1, 2, 3, 4, 5, 6, 7, 8] (.done)) (by kernel_rfl) (by kernel_rfl) (by kernel_rfl) ?_; generalize hK : VS _ _ _ = KK; simp only [opsVc_run, opsVc_both, opsVc_chk, opsVc_done, opsVc_yes, pick_cons, pick_nil, List.getElem?_cons_zero, List.getElem?_cons_succ]; simp (maxSteps := 1000000) [hF, dAll, dDeed, dTbs_at hj, hj, hpush]; (try subst hK); try (refine VS.keep [0, 2] ?_; generalize hK : VS _ _ _ = KK; simp; (try subst hK)))
          | (refine VS.keepAt 38 [0, 2] ?_; generalize hK : VS _ _ _ = KK; (try simp); (try subst hK); refine VS.region tabOk (id := 38) [] (by kernel_rfl) ?_; generalize hK : VS _ _ _ = KK; simp (maxSteps := 1000000) [hF, dAll, dDeed, dTbs_at hj, hj, hpush]; (try subst hK); try (refine VS.keep [8] ?_; generalize hK : VS _ _ _ = KK; simp; (try subst hK)))
        try refine VS.ret ?_
        repeat first | refine blockN_ret ?_ | refine loopN_ret ?_
        refine endK.of [8] [0] [(0, [.d])] (by simp [hF]) (by simp [covers, mpre]) ?_
        simp [hF, retK, dAll, e1', hmid, hw1, hw2]
      · refine VS.pick [0, 2, 13] [0, 4] (by simp [hF]) ?_
        generalize hK : VS _ _ _ = KK; simp [hF]; (try subst hK)
        refine VS.lift 0 [.d] (by simp (maxSteps := 1000000) [hF, dAll]) (by simp (maxSteps := 1000000) [hF, dAll]) (by simp [isNode, dAll]) (by simp (maxSteps := 1000000) [hF, dAll]) ?_
        generalize hK : VS _ _ _ = KK; simp [hF, St.lift, AV.lift, liftPl, stripP, nodeAV, dAll]; (try subst hK)
        refine VS.lift 1 [.d, .f 0] (by simp (maxSteps := 1000000) [hF]) (by simp (maxSteps := 1000000) [hF]) (by simp [isNode]) (by simp (maxSteps := 1000000) [hF]) ?_
        generalize hK : VS _ _ _ = KK; simp [hF, St.lift, AV.lift, liftPl, stripP, nodeAV]; (try subst hK)
        refine VS.lift 1 [.d, .f 1] (by simp (maxSteps := 1000000) [hF]) (by simp (maxSteps := 1000000) [hF]) (by simp [isNode]) (by simp (maxSteps := 1000000) [hF]) ?_
        generalize hK : VS _ _ _ = KK; simp [hF, St.lift, AV.lift, liftPl, stripP, nodeAV]; (try subst hK)
        repeat first
          | refine VS.seq ?_
          | refine ⟨⟨by omega, by omega⟩, ?_⟩
          | (refine VS.keepAt 37 [0, 2, 13] ?_; generalize hK : VS _ _ _ = KK; (try simp); (try subst hK); refine VS.drawn tabOk mixedOk (id := 37) [] [⟨0, 1, 200867255532373784442745261542645325315275374222849104412672, 5⟩, ⟨0, 1, 401734511064747568885490523085290650630550748445698208825344, 5⟩, ⟨2, 401734511064747568885490523085290650630550748445698208825344, 803469022129495137770981046170581301261101496891396417650688, 5⟩, ⟨4, 803469022129495137770981046170581301261101496891396417650688, 1606938044258990275541962092341162602522202993782792835301376, 6⟩, ⟨0, 8192, 3213876088517980551083924184682325205044405987565585670602752, 6⟩, ⟨16, 3213876088517980551083924184682325205044405987565585670602752, 6427752177035961102167848369364650410088811975131171341205504, 4⟩, ⟨40, 8034690221294951377709810461705813012611014968913964176506880, 12855504354071922204335696738729300820177623950262342682411008, 0⟩, ⟨127, 200867255532373784442745261542645325315275374222849104412672, 25711008708143844408671393477458601640355247900524685364822016, 5⟩, ⟨255, 38566513062215766613007090216187902460532871850787028047233024, 0, 0⟩] (.take 0 (.take 1 (.take 2 (.take 3 (.take 4 (.fork (.alt 5 (.fork (.alt 6 (.take 7 (.fork (.alt 8 (.done) (.nil)))) (.nil))) (.nil)))))))) (.run [0, 1, 2, 3, 4, 5, 6, 7, 8] (.done)) (by kernel_rfl) (by kernel_rfl) (by kernel_rfl) ?_; generalize hK : VS _ _ _ = KK; simp only [opsVc_run, opsVc_both, opsVc_chk, opsVc_done, opsVc_yes, pick_cons, pick_nil, List.getElem?_cons_zero, List.getElem?_cons_succ]; simp (maxSteps := 1000000) [hF, dAll, dDeed, dTbs_at hj, hj, hpush]; (try subst hK); try (refine VS.keep [0, 2] ?_; generalize hK : VS _ _ _ = KK; simp; (try subst hK)))
          | (refine VS.keepAt 38 [0, 2] ?_; generalize hK : VS _ _ _ = KK; (try simp); (try subst hK); refine VS.region tabOk (id := 38) [] (by kernel_rfl) ?_; generalize hK : VS _ _ _ = KK; simp (maxSteps := 1000000) [hF, dAll, dDeed, dTbs_at hj, hj, hpush]; (try subst hK); try (refine VS.keep [8] ?_; generalize hK : VS _ _ _ = KK; simp; (try subst hK)))
        try refine VS.ret ?_
        repeat first | refine blockN_ret ?_ | refine loopN_ret ?_
        refine endK.of [8] [0] [(0, [.d])] (by simp [hF]) (by simp [covers, mpre]) ?_
        simp [hF, retK, dAll, e1', hmid, hw1, hw2]
      · refine VS.pick [0, 2, 13] [0, 3] (by simp [hF]) ?_
        generalize hK : VS _ _ _ = KK; simp [hF]; (try subst hK)
        refine VS.lift 0 [.d] (by simp (maxSteps := 1000000) [hF, dAll]) (by simp (maxSteps := 1000000) [hF, dAll]) (by simp [isNode, dAll]) (by simp (maxSteps := 1000000) [hF, dAll]) ?_
        generalize hK : VS _ _ _ = KK; simp [hF, St.lift, AV.lift, liftPl, stripP, nodeAV, dAll]; (try subst hK)
        refine VS.lift 1 [.d, .f 0] (by simp (maxSteps := 1000000) [hF]) (by simp (maxSteps := 1000000) [hF]) (by simp [isNode]) (by simp (maxSteps := 1000000) [hF]) ?_
        generalize hK : VS _ _ _ = KK; simp [hF, St.lift, AV.lift, liftPl, stripP, nodeAV]; (try subst hK)
        refine VS.lift 1 [.d, .f 1] (by simp (maxSteps := 1000000) [hF]) (by simp (maxSteps := 1000000) [hF]) (by simp [isNode]) (by simp (maxSteps := 1000000) [hF]) ?_
        generalize hK : VS _ _ _ = KK; simp [hF, St.lift, AV.lift, liftPl, stripP, nodeAV]; (try subst hK)
        repeat first
          | refine VS.seq ?_
          | refine ⟨⟨by omega, by omega⟩, ?_⟩
          | (refine VS.keepAt 37 [0, 2, 13] ?_; generalize hK : VS _ _ _ = KK; (try simp); (try subst hK); refine VS.drawn tabOk mixedOk (id := 37) [] [⟨0, 1, 200867255532373784442745261542645325315275374222849104412672, 5⟩, ⟨0, 1, 401734511064747568885490523085290650630550748445698208825344, 5⟩, ⟨2, 401734511064747568885490523085290650630550748445698208825344, 803469022129495137770981046170581301261101496891396417650688, 5⟩, ⟨4, 803469022129495137770981046170581301261101496891396417650688, 1606938044258990275541962092341162602522202993782792835301376, 6⟩, ⟨0, 8192, 3213876088517980551083924184682325205044405987565585670602752, 6⟩, ⟨16, 3213876088517980551083924184682325205044405987565585670602752, 6427752177035961102167848369364650410088811975131171341205504, 4⟩, ⟨40, 8034690221294951377709810461705813012611014968913964176506880, 12855504354071922204335696738729300820177623950262342682411008, 0⟩, ⟨127, 200867255532373784442745261542645325315275374222849104412672, 25711008708143844408671393477458601640355247900524685364822016, 5⟩, ⟨255, 38566513062215766613007090216187902460532871850787028047233024, 0, 0⟩] (.take 0 (.take 1 (.take 2 (.take 3 (.take 4 (.fork (.alt 5 (.fork (.alt 6 (.take 7 (.fork (.alt 8 (.done) (.nil)))) (.nil))) (.nil)))))))) (.run [0, 1, 2, 3, 4, 5, 6, 7, 8] (.done)) (by kernel_rfl) (by kernel_rfl) (by kernel_rfl) ?_; generalize hK : VS _ _ _ = KK; simp only [opsVc_run, opsVc_both, opsVc_chk, opsVc_done, opsVc_yes, pick_cons, pick_nil, List.getElem?_cons_zero, List.getElem?_cons_succ]; simp (maxSteps := 1000000) [hF, dAll, dDeed, dTbs_at hj, hj, hpush]; (try subst hK); try (refine VS.keep [0, 2] ?_; generalize hK : VS _ _ _ = KK; simp; (try subst hK)))
          | (refine VS.keepAt 38 [0, 2] ?_; generalize hK : VS _ _ _ = KK; (try simp); (try subst hK); refine VS.region tabOk (id := 38) [] (by kernel_rfl) ?_; generalize hK : VS _ _ _ = KK; simp (maxSteps := 1000000) [hF, dAll, dDeed, dTbs_at hj, hj, hpush]; (try subst hK); try (refine VS.keep [8] ?_; generalize hK : VS _ _ _ = KK; simp; (try subst hK)))
        try refine VS.ret ?_
        repeat first | refine blockN_ret ?_ | refine loopN_ret ?_
        refine endK.of [8] [0] [(0, [.d])] (by simp [hF]) (by simp [covers, mpre]) ?_
        simp [hF, retK, dAll, e1', hmid, hw1, hw2]
      · refine VS.pick [0, 2, 13] [0, 3] (by simp [hF]) ?_
        generalize hK : VS _ _ _ = KK; simp [hF]; (try subst hK)
        refine VS.lift 0 [.d] (by simp (maxSteps := 1000000) [hF, dAll]) (by simp (maxSteps := 1000000) [hF, dAll]) (by simp [isNode, dAll]) (by simp (maxSteps := 1000000) [hF, dAll]) ?_
        generalize hK : VS _ _ _ = KK; simp [hF, St.lift, AV.lift, liftPl, stripP, nodeAV, dAll]; (try subst hK)
        refine VS.lift 1 [.d, .f 0] (by simp (maxSteps := 1000000) [hF]) (by simp (maxSteps := 1000000) [hF]) (by simp [isNode]) (by simp (maxSteps := 1000000) [hF]) ?_
        generalize hK : VS _ _ _ = KK; simp [hF, St.lift, AV.lift, liftPl, stripP, nodeAV]; (try subst hK)
        refine VS.lift 1 [.d, .f 1] (by simp (maxSteps := 1000000) [hF]) (by simp (maxSteps := 1000000) [hF]) (by simp [isNode]) (by simp (maxSteps := 1000000) [hF]) ?_
        generalize hK : VS _ _ _ = KK; simp [hF, St.lift, AV.lift, liftPl, stripP, nodeAV]; (try subst hK)
        repeat first
          | refine VS.seq ?_
          | refine ⟨⟨by omega, by omega⟩, ?_⟩
          | (refine VS.keepAt 37 [0, 2, 13] ?_; generalize hK : VS _ _ _ = KK; (try simp); (try subst hK); refine VS.drawn tabOk mixedOk (id := 37) [] [⟨0, 1, 200867255532373784442745261542645325315275374222849104412672, 5⟩, ⟨0, 1, 401734511064747568885490523085290650630550748445698208825344, 5⟩, ⟨2, 401734511064747568885490523085290650630550748445698208825344, 803469022129495137770981046170581301261101496891396417650688, 5⟩, ⟨4, 803469022129495137770981046170581301261101496891396417650688, 1606938044258990275541962092341162602522202993782792835301376, 6⟩, ⟨0, 8192, 3213876088517980551083924184682325205044405987565585670602752, 6⟩, ⟨16, 3213876088517980551083924184682325205044405987565585670602752, 6427752177035961102167848369364650410088811975131171341205504, 4⟩, ⟨40, 8034690221294951377709810461705813012611014968913964176506880, 12855504354071922204335696738729300820177623950262342682411008, 0⟩, ⟨127, 200867255532373784442745261542645325315275374222849104412672, 25711008708143844408671393477458601640355247900524685364822016, 5⟩, ⟨255, 38566513062215766613007090216187902460532871850787028047233024, 0, 0⟩] (.take 0 (.take 1 (.take 2 (.take 3 (.take 4 (.fork (.alt 5 (.fork (.alt 6 (.take 7 (.fork (.alt 8 (.done) (.nil)))) (.nil))) (.nil)))))))) (.run [0, 1, 2, 3, 4, 5, 6, 7, 8] (.done)) (by kernel_rfl) (by kernel_rfl) (by kernel_rfl) ?_; generalize hK : VS _ _ _ = KK; simp only [opsVc_run, opsVc_both, opsVc_chk, opsVc_done, opsVc_yes, pick_cons, pick_nil, List.getElem?_cons_zero, List.getElem?_cons_succ]; simp (maxSteps := 1000000) [hF, dAll, dDeed, dTbs_at hj, hj, hpush]; (try subst hK); try (refine VS.keep [0, 2] ?_; generalize hK : VS _ _ _ = KK; simp; (try subst hK)))
          | (refine VS.keepAt 38 [0, 2] ?_; generalize hK : VS _ _ _ = KK; (try simp); (try subst hK); refine VS.region tabOk (id := 38) [] (by kernel_rfl) ?_; generalize hK : VS _ _ _ = KK; simp (maxSteps := 1000000) [hF, dAll, dDeed, dTbs_at hj, hj, hpush]; (try subst hK); try (refine VS.keep [8] ?_; generalize hK : VS _ _ _ = KK; simp; (try subst hK)))
        try refine VS.ret ?_
        repeat first | refine blockN_ret ?_ | refine loopN_ret ?_
        refine endK.of [8] [0] [(0, [.d])] (by simp [hF]) (by simp [covers, mpre]) ?_
        simp [hF, retK, dAll, e1', hmid, hw1, hw2]
      · refine VS.pick [0, 2, 13] [0, 4] (by simp [hF]) ?_
        generalize hK : VS _ _ _ = KK; simp [hF]; (try subst hK)
        refine VS.lift 0 [.d] (by simp (maxSteps := 1000000) [hF, dAll]) (by simp (maxSteps := 1000000) [hF, dAll]) (by simp [isNode, dAll]) (by simp (maxSteps := 1000000) [hF, dAll]) ?_
        generalize hK : VS _ _ _ = KK; simp [hF, St.lift, AV.lift, liftPl, stripP, nodeAV, dAll]; (try subst hK)
        refine VS.lift 1 [.d, .f 0] (by simp (maxSteps := 1000000) [hF]) (by simp (maxSteps := 1000000) [hF]) (by simp [isNode]) (by simp (maxSteps := 1000000) [hF]) ?_
        generalize hK : VS _ _ _ = KK; simp [hF, St.lift, AV.lift, liftPl, stripP, nodeAV]; (try subst hK)
        refine VS.lift 1 [.d, .f 1] (by simp (maxSteps := 1000000) [hF]) (by simp (maxSteps := 1000000) [hF]) (by simp [isNode]) (by simp (maxSteps := 1000000) [hF]) ?_
        generalize hK : VS _ _ _ = KK; simp [hF, St.lift, AV.lift, liftPl, stripP, nodeAV]; (try subst hK)
        repeat first
          | refine VS.seq ?_
          | refine ⟨⟨by omega, by omega⟩, ?_⟩
          | (refine VS.keepAt 37 [0, 2, 13] ?_; generalize hK : VS _ _ _ = KK; (try simp); (try subst hK); refine VS.drawn tabOk mixedOk (id := 37) [] [⟨0, 1, 200867255532373784442745261542645325315275374222849104412672, 5⟩, ⟨0, 1, 401734511064747568885490523085290650630550748445698208825344, 5⟩, ⟨2, 401734511064747568885490523085290650630550748445698208825344, 803469022129495137770981046170581301261101496891396417650688, 5⟩, ⟨4, 803469022129495137770981046170581301261101496891396417650688, 1606938044258990275541962092341162602522202993782792835301376, 6⟩, ⟨0, 8192, 3213876088517980551083924184682325205044405987565585670602752, 6⟩, ⟨16, 3213876088517980551083924184682325205044405987565585670602752, 6427752177035961102167848369364650410088811975131171341205504, 4⟩, ⟨40, 8034690221294951377709810461705813012611014968913964176506880, 12855504354071922204335696738729300820177623950262342682411008, 0⟩, ⟨127, 200867255532373784442745261542645325315275374222849104412672, 25711008708143844408671393477458601640355247900524685364822016, 5⟩, ⟨255, 38566513062215766613007090216187902460532871850787028047233024, 0, 0⟩] (.take 0 (.take 1 (.take 2 (.take 3 (.take 4 (.fork (.alt 5 (.fork (.alt 6 (.take 7 (.fork (.alt 8 (.done) (.nil)))) (.nil))) (.nil)))))))) (.run [0, 1, 2, 3, 4, 5, 6, 7, 8] (.done)) (by kernel_rfl) (by kernel_rfl) (by kernel_rfl) ?_; generalize hK : VS _ _ _ = KK; simp only [opsVc_run, opsVc_both, opsVc_chk, opsVc_done, opsVc_yes, pick_cons, pick_nil, List.getElem?_cons_zero, List.getElem?_cons_succ]; simp (maxSteps := 1000000) [hF, dAll, dDeed, dTbs_at hj, hj, hpush]; (try subst hK); try (refine VS.keep [0, 2] ?_; generalize hK : VS _ _ _ = KK; simp; (try subst hK)))
          | (refine VS.keepAt 38 [0, 2] ?_; generalize hK : VS _ _ _ = KK; (try simp); (try subst hK); refine VS.region tabOk (id := 38) [] (by kernel_rfl) ?_; generalize hK : VS _ _ _ = KK; simp (maxSteps := 1000000) [hF, dAll, dDeed, dTbs_at hj, hj, hpush]; (try subst hK); try (refine VS.keep [8] ?_; generalize hK : VS _ _ _ = KK; simp; (try subst hK)))
        try refine VS.ret ?_
        repeat first | refine blockN_ret ?_ | refine loopN_ret ?_
        refine endK.of [8] [0] [(0, [.d])] (by simp [hF]) (by simp [covers, mpre]) ?_
        simp [hF, retK, dAll, e1', hmid, hw1, hw2]
      · refine VS.pick [0, 2, 13] [0, 4] (by simp [hF]) ?_
        generalize hK : VS _ _ _ = KK; simp [hF]; (try subst hK)
        refine VS.lift 0 [.d] (by simp (maxSteps := 1000000) [hF, dAll]) (by simp (maxSteps := 1000000) [hF, dAll]) (by simp [isNode, dAll]) (by simp (maxSteps := 1000000) [hF, dAll]) ?_
        generalize hK : VS _ _ _ = KK; simp [hF, St.lift, AV.lift, liftPl, stripP, nodeAV, dAll]; (try subst hK)
        refine VS.lift 1 [.d, .f 0] (by simp (maxSteps := 1000000) [hF]) (by simp (maxSteps := 1000000) [hF]) (by simp [isNode]) (by simp (maxSteps := 1000000) [hF]) ?_
        generalize hK : VS _ _ _ = KK; simp [hF, St.lift, AV.lift, liftPl, stripP, nodeAV]; (try subst hK)
        refine VS.lift 1 [.d, .f 1] (by simp (maxSteps := 1000000) [hF]) (by simp (maxSteps := 1000000) [hF]) (by simp [isNode]) (by simp (maxSteps := 1000000) [hF]) ?_
        generalize hK : VS _ _ _ = KK; simp [hF, St.lift, AV.lift, liftPl, stripP, nodeAV]; (try subst hK)
        repeat first
          | refine VS.seq ?_
          | refine ⟨⟨by omega, by omega⟩, ?_⟩
          | (refine VS.keepAt 37 [0, 2, 13] ?_; generalize hK : VS _ _ _ = KK; (try simp); (try subst hK); refine VS.drawn tabOk mixedOk (id := 37) [] [⟨0, 1, 200867255532373784442745261542645325315275374222849104412672, 5⟩, ⟨0, 1, 401734511064747568885490523085290650630550748445698208825344, 5⟩, ⟨2, 401734511064747568885490523085290650630550748445698208825344, 803469022129495137770981046170581301261101496891396417650688, 5⟩, ⟨4, 803469022129495137770981046170581301261101496891396417650688, 1606938044258990275541962092341162602522202993782792835301376, 6⟩, ⟨0, 8192, 3213876088517980551083924184682325205044405987565585670602752, 6⟩, ⟨16, 3213876088517980551083924184682325205044405987565585670602752, 6427752177035961102167848369364650410088811975131171341205504, 4⟩, ⟨40, 8034690221294951377709810461705813012611014968913964176506880, 12855504354071922204335696738729300820177623950262342682411008, 0⟩, ⟨127, 200867255532373784442745261542645325315275374222849104412672, 25711008708143844408671393477458601640355247900524685364822016, 5⟩, ⟨255, 38566513062215766613007090216187902460532871850787028047233024, 0, 0⟩] (.take 0 (.take 1 (.take 2 (.take 3 (.take 4 (.fork (.alt 5 (.fork (.alt 6 (.take 7 (.fork (.alt 8 (.done) (.nil)))) (.nil))) (.nil)))))))) (.run [0, 1, 2, 3, 4, 5, 6, 7, 8] (.done)) (by kernel_rfl) (by kernel_rfl) (by kernel_rfl) ?_; generalize hK : VS _ _ _ = KK; simp only [opsVc_run, opsVc_both, opsVc_chk, opsVc_done, opsVc_yes, pick_cons, pick_nil, List.getElem?_cons_zero, List.getElem?_cons_succ]; simp (maxSteps := 1000000) [hF, dAll, dDeed, dTbs_at hj, hj, hpush]; (try subst hK); try (refine VS.keep [0, 2] ?_; generalize hK : VS _ _ _ = KK; simp; (try subst hK)))
          | (refine VS.keepAt 38 [0, 2] ?_; generalize hK : VS _ _ _ = KK; (try simp); (try subst hK); refine VS.region tabOk (id := 38) [] (by kernel_rfl) ?_; generalize hK : VS _ _ _ = KK; simp (maxSteps := 1000000) [hF, dAll, dDeed, dTbs_at hj, hj, hpush]; (try subst hK); try (refine VS.keep [8] ?_; generalize hK : VS _ _ _ = KK; simp; (try subst hK)))
        try refine VS.ret ?_
        repeat first | refine blockN_ret ?_ | refine loopN_ret ?_
        refine endK.of [8] [0] [(0, [.d])] (by simp [hF]) (by simp [covers, mpre]) ?_
        simp [hF, retK, dAll, e1', hmid, hw1, hw2]
      · refine VS.pick [0, 2, 13] [0, 4] (by simp [hF]) ?_
        generalize hK : VS _ _ _ = KK; simp [hF]; (try subst hK)
        refine VS.lift 0 [.d] (by simp (maxSteps := 1000000) [hF, dAll]) (by simp (maxSteps := 1000000) [hF, dAll]) (by simp [isNode, dAll]) (by simp (maxSteps := 1000000) [hF, dAll]) ?_
        generalize hK : VS _ _ _ = KK; simp [hF, St.lift, AV.lift, liftPl, stripP, nodeAV, dAll]; (try subst hK)
        refine VS.lift 1 [.d, .f 0] (by simp (maxSteps := 1000000) [hF]) (by simp (maxSteps := 1000000) [hF]) (by simp [isNode]) (by simp (maxSteps := 1000000) [hF]) ?_
        generalize hK : VS _ _ _ = KK; simp [hF, St.lift, AV.lift, liftPl, stripP, nodeAV]; (try subst hK)
        refine VS.lift 1 [.d, .f 1] (by simp (maxSteps := 1000000) [hF]) (by simp (maxSteps := 1000000) [hF]) (by simp [isNode]) (by simp (maxSteps := 1000000) [hF]) ?_
        generalize hK : VS _ _ _ = KK; simp [hF, St.lift, AV.lift, liftPl, stripP, nodeAV]; (try subst hK)
        repeat first
          | refine VS.seq ?_
          | refine ⟨⟨by omega, by omega⟩, ?_⟩
          | (refine VS.keepAt 37 [0, 2, 13] ?_; generalize hK : VS _ _ _ = KK; (try simp); (try subst hK); refine VS.drawn tabOk mixedOk (id := 37) [] [⟨0, 1, 200867255532373784442745261542645325315275374222849104412672, 5⟩, ⟨0, 1, 401734511064747568885490523085290650630550748445698208825344, 5⟩, ⟨2, 401734511064747568885490523085290650630550748445698208825344, 803469022129495137770981046170581301261101496891396417650688, 5⟩, ⟨4, 803469022129495137770981046170581301261101496891396417650688, 1606938044258990275541962092341162602522202993782792835301376, 6⟩, ⟨0, 8192, 3213876088517980551083924184682325205044405987565585670602752, 6⟩, ⟨16, 3213876088517980551083924184682325205044405987565585670602752, 6427752177035961102167848369364650410088811975131171341205504, 4⟩, ⟨40, 8034690221294951377709810461705813012611014968913964176506880, 12855504354071922204335696738729300820177623950262342682411008, 0⟩, ⟨127, 200867255532373784442745261542645325315275374222849104412672, 25711008708143844408671393477458601640355247900524685364822016, 5⟩, ⟨255, 38566513062215766613007090216187902460532871850787028047233024, 0, 0⟩] (.take 0 (.take 1 (.take 2 (.take 3 (.take 4 (.fork (.alt 5 (.fork (.alt 6 (.take 7 (.fork (.alt 8 (.done) (.nil)))) (.nil))) (.nil)))))))) (.run [0, 1, 2, 3, 4, 5, 6, 7, 8] (.done)) (by kernel_rfl) (by kernel_rfl) (by kernel_rfl) ?_; generalize hK : VS _ _ _ = KK; simp only [opsVc_run, opsVc_both, opsVc_chk, opsVc_done, opsVc_yes, pick_cons, pick_nil, List.getElem?_cons_zero, List.getElem?_cons_succ]; simp (maxSteps := 1000000) [hF, dAll, dDeed, dTbs_at hj, hj, hpush]; (try subst hK); try (refine VS.keep [0, 2] ?_; generalize hK : VS _ _ _ = KK; simp; (try subst hK)))
          | (refine VS.keepAt 38 [0, 2] ?_; generalize hK : VS _ _ _ = KK; (try simp); (try subst hK); refine VS.region tabOk (id := 38) [] (by kernel_rfl) ?_; generalize hK : VS _ _ _ = KK; simp (maxSteps := 1000000) [hF, dAll, dDeed, dTbs_at hj, hj, hpush]; (try subst hK); try (refine VS.keep [8] ?_; generalize hK : VS _ _ _ = KK; simp; (try subst hK)))
        try refine VS.ret ?_
        repeat first | refine blockN_ret ?_ | refine loopN_ret ?_
        refine endK.of [8] [0] [(0, [.d])] (by simp [hF]) (by simp [covers, mpre]) ?_
        simp [hF, retK, dAll, e1', hmid, hw1, hw2]
      · refine VS.pick [0, 2, 13] [0, 3] (by simp [hF]) ?_
        generalize hK : VS _ _ _ = KK; simp [hF]; (try subst hK)
        refine VS.lift 0 [.d] (by simp (maxSteps := 1000000) [hF, dAll]) (by simp (maxSteps := 1000000) [hF, dAll]) (by simp [isNode, dAll]) (by simp (maxSteps := 1000000) [hF, dAll]) ?_
        generalize hK : VS _ _ _ = KK; simp [hF, St.lift, AV.lift, liftPl, stripP, nodeAV, dAll]; (try subst hK)
        refine VS.lift 1 [.d, .f 0] (by simp (maxSteps := 1000000) [hF]) (by simp (maxSteps := 1000000) [hF]) (by simp [isNode]) (by simp (maxSteps := 1000000) [hF]) ?_
        generalize hK : VS _ _ _ = KK; simp [hF, St.lift, AV.lift, liftPl, stripP, nodeAV]; (try subst hK)
        refine VS.lift 1 [.d, .f 1] (by simp (maxSteps := 1000000) [hF]) (by simp (maxSteps := 1000000) [hF]) (by simp [isNode]) (by simp (maxSteps := 1000000) [hF]) ?_
        generalize hK : VS _ _ _ = KK; simp [hF, St.lift, AV.lift, liftPl, stripP, nodeAV]; (try subst hK)
        repeat first
          | refine VS.seq ?_
          | refine ⟨⟨by omega, by omega⟩, ?_⟩
          | (refine VS.keepAt 37 [0, 2, 13] ?_; generalize hK : VS _ _ _ = KK; (try simp); (try subst hK); refine VS.drawn tabOk mixedOk (id := 37) [] [⟨0, 1, 200867255532373784442745261542645325315275374222849104412672, 5⟩, ⟨0, 1, 401734511064747568885490523085290650630550748445698208825344, 5⟩, ⟨2, 401734511064747568885490523085290650630550748445698208825344, 803469022129495137770981046170581301261101496891396417650688, 5⟩, ⟨4, 803469022129495137770981046170581301261101496891396417650688, 1606938044258990275541962092341162602522202993782792835301376, 6⟩, ⟨0, 8192, 3213876088517980551083924184682325205044405987565585670602752, 6⟩, ⟨16, 3213876088517980551083924184682325205044405987565585670602752, 6427752177035961102167848369364650410088811975131171341205504, 4⟩, ⟨40, 8034690221294951377709810461705813012611014968913964176506880, 12855504354071922204335696738729300820177623950262342682411008, 0⟩, ⟨127, 200867255532373784442745261542645325315275374222849104412672, 25711008708143844408671393477458601640355247900524685364822016, 5⟩, ⟨255, 38566513062215766613007090216187902460532871850787028047233024, 0, 0⟩] (.take 0 (.take 1 (.take 2 (.take 3 (.take 4 (.fork (.alt 5 (.fork (.alt 6 (.take 7 (.fork (.alt 8 (.done) (.nil)))) (.nil))) (.nil)))))))) (.run [0, 1, 2, 3, 4, 5, 6, 7, 8] (.done)) (by kernel_rfl) (by kernel_rfl) (by kernel_rfl) ?_; generalize hK : VS _ _ _ = KK; simp only [opsVc_run, opsVc_both, opsVc_chk, opsVc_done, opsVc_yes, pick_cons, pick_nil, List.getElem?_cons_zero, List.getElem?_cons_succ]; simp (maxSteps := 1000000) [hF, dAll, dDeed, dTbs_at hj, hj, hpush]; (try subst hK); try (refine VS.keep [0, 2] ?_; generalize hK : VS _ _ _ = KK; simp; (try subst hK)))
          | (refine VS.keepAt 38 [0, 2] ?_; generalize hK : VS _ _ _ = KK; (try simp); (try subst hK); refine VS.region tabOk (id := 38) [] (by kernel_rfl) ?_; generalize hK : VS _ _ _ = KK; simp (maxSteps := 1000000) [hF, dAll, dDeed, dTbs_at hj, hj, hpush]; (try subst hK); try (refine VS.keep [8] ?_; generalize hK : VS _ _ _ = KK; simp; (try subst hK)))
        try refine VS.ret ?_
        repeat first | refine blockN_ret ?_ | refine loopN_ret ?_
        refine endK.of [8] [0] [(0, [.d])] (by simp [hF]) (by simp [covers, mpre]) ?_
        simp [hF, retK, dAll, e1', hmid, hw1, hw2]
      · refine VS.pick [0, 2, 13] [0, 2] (by simp [hF]) ?_
        generalize hK : VS _ _ _ = KK; simp [hF]; (try subst hK)
        refine VS.lift 0 [.d] (by simp (maxSteps := 1000000) [hF, dAll]) (by simp (maxSteps := 1000000) [hF, dAll]) (by simp [isNode, dAll]) (by simp (maxSteps := 1000000) [hF, dAll]) ?_
        generalize hK : VS _ _ _ = KK; simp [hF, St.lift, AV.lift, liftPl, stripP, nodeAV, dAll]; (try subst hK)
        refine VS.lift 1 [.d, .f 0] (by simp (maxSteps := 1000000) [hF]) (by simp (maxSteps := 1000000) [hF]) (by simp [isNode]) (by simp (maxSteps := 1000000) [hF]) ?_
        generalize hK : VS _ _ _ = KK; simp [hF, St.lift, AV.lift, liftPl, stripP, nodeAV]; (try subst hK)
        refine VS.lift 1 [.d, .f 1] (by simp (maxSteps := 1000000) [hF]) (by simp (maxSteps := 1000000) [hF]) (by simp [isNode]) (by simp (maxSteps := 1000000) [hF]) ?_
        generalize hK : VS _ _ _ = KK; simp [hF, St.lift, AV.lift, liftPl, stripP, nodeAV]; (try subst hK)
        repeat first
          | refine VS.seq ?_
          | refine ⟨⟨by omega, by omega⟩, ?_⟩
          | (refine VS.keepAt 37 [0, 2, 13] ?_; generalize hK : VS _ _ _ = KK; (try simp); (try subst hK); refine VS.drawn tabOk mixedOk (id := 37) [] [⟨0, 1, 200867255532373784442745261542645325315275374222849104412672, 5⟩, ⟨0, 1, 401734511064747568885490523085290650630550748445698208825344, 5⟩, ⟨2, 401734511064747568885490523085290650630550748445698208825344, 803469022129495137770981046170581301261101496891396417650688, 5⟩, ⟨4, 803469022129495137770981046170581301261101496891396417650688, 1606938044258990275541962092341162602522202993782792835301376, 6⟩, ⟨0, 8192, 3213876088517980551083924184682325205044405987565585670602752, 6⟩, ⟨16, 3213876088517980551083924184682325205044405987565585670602752, 6427752177035961102167848369364650410088811975131171341205504, 4⟩, ⟨40, 8034690221294951377709810461705813012611014968913964176506880, 12855504354071922204335696738729300820177623950262342682411008, 0⟩, ⟨127, 200867255532373784442745261542645325315275374222849104412672, 25711008708143844408671393477458601640355247900524685364822016, 5⟩, ⟨255, 38566513062215766613007090216187902460532871850787028047233024, 0, 0⟩] (.take 0 (.take 1 (.take 2 (.take 3 (.take 4 (.fork (.alt 5 (.fork (.alt 6 (.take 7 (.fork (.alt 8 (.done) (.nil)))) (.nil))) (.nil)))))))) (.run [0, 1, 2, 3, 4, 5, 6, 7, 8] (.done)) (by kernel_rfl) (by kernel_rfl) (by kernel_rfl) ?_; generalize hK : VS _ _ _ = KK; simp only [opsVc_run, opsVc_both, opsVc_chk, opsVc_done, opsVc_yes, pick_cons, pick_nil, List.getElem?_cons_zero, List.getElem?_cons_succ]; simp (maxSteps := 1000000) [hF, dAll, dDeed, dTbs_at hj, hj, hpush]; (try subst hK); try (refine VS.keep [0, 2] ?_; generalize hK : VS _ _ _ = KK; simp; (try subst hK)))
          | (refine VS.keepAt 38 [0, 2] ?_; generalize hK : VS _ _ _ = KK; (try simp); (try subst hK); refine VS.region tabOk (id := 38) [] (by kernel_rfl) ?_; generalize hK : VS _ _ _ = KK; simp (maxSteps := 1000000) [hF, dAll, dDeed, dTbs_at hj, hj, hpush]; (try subst hK); try (refine VS.keep [8] ?_; generalize hK : VS _ _ _ = KK; simp; (try subst hK)))
        try refine VS.ret ?_
        repeat first | refine blockN_ret ?_ | refine loopN_ret ?_
        refine endK.of [8] [0] [(0, [.d])] (by simp [hF]) (by simp [covers, mpre]) ?_
        simp [hF, retK, dAll, e1', hmid, hw1, hw2]
      · refine VS.pick [0, 2, 13] [0, 2] (by simp [hF]) ?_
        generalize hK : VS _ _ _ = KK; simp [hF]; (try subst hK)
        refine VS.lift 0 [.d] (by simp (maxSteps := 1000000) [hF, dAll]) (by simp (maxSteps := 1000000) [hF, dAll]) (by simp [isNode, dAll]) (by simp (maxSteps := 1000000) [hF, dAll]) ?_
        generalize hK : VS _ _ _ = KK; simp [hF, St.lift, AV.lift, liftPl, stripP, nodeAV, dAll]; (try subst hK)
        refine VS.lift 1 [.d, .f 0] (by simp (maxSteps := 1000000) [hF]) (by simp (maxSteps := 1000000) [hF]) (by simp [isNode]) (by simp (maxSteps := 1000000) [hF]) ?_
        generalize hK : VS _ _ _ = KK; simp [hF, St.lift, AV.lift, liftPl, stripP, nodeAV]; (try subst hK)
        refine VS.lift 1 [.d, .f 1] (by simp (maxSteps := 1000000) [hF]) (by simp (maxSteps := 1000000) [hF]) (by simp [isNode]) (by simp (maxSteps := 1000000) [hF]) ?_
        generalize hK : VS _ _ _ = KK; simp [hF, St.lift, AV.lift, liftPl, stripP, nodeAV]; (try subst hK)
        repeat first
          | refine VS.seq ?_
          | refine ⟨⟨by omega, by omega⟩, ?_⟩
          | (refine VS.keepAt 37 [0, 2, 13] ?_; generalize hK : VS _ _ _ = KK; (try simp); (try subst hK); refine VS.drawn tabOk mixedOk (id := 37) [] [⟨0, 1, 200867255532373784442745261542645325315275374222849104412672, 5⟩, ⟨0, 1, 401734511064747568885490523085290650630550748445698208825344, 5⟩, ⟨2, 401734511064747568885490523085290650630550748445698208825344, 803469022129495137770981046170581301261101496891396417650688, 5⟩, ⟨4, 803469022129495137770981046170581301261101496891396417650688, 1606938044258990275541962092341162602522202993782792835301376, 6⟩, ⟨0, 8192, 3213876088517980551083924184682325205044405987565585670602752, 6⟩, ⟨16, 3213876088517980551083924184682325205044405987565585670602752, 6427752177035961102167848369364650410088811975131171341205504, 4⟩, ⟨40, 8034690221294951377709810461705813012611014968913964176506880, 12855504354071922204335696738729300820177623950262342682411008, 0⟩, ⟨127, 200867255532373784442745261542645325315275374222849104412672, 25711008708143844408671393477458601640355247900524685364822016, 5⟩, ⟨255, 38566513062215766613007090216187902460532871850787028047233024, 0, 0⟩] (.take 0 (.take 1 (.take 2 (.take 3 (.take 4 (.fork (.alt 5 (.fork (.alt 6 (.take 7 (.fork (.alt 8 (.done) (.nil)))) (.nil))) (.nil)))))))) (.run [0, 1, 2, 3, 4, 5, 6, 7, 8] (.done)) (by kernel_rfl) (by kernel_rfl) (by kernel_rfl) ?_; generalize hK : VS _ _ _ = KK; simp only [opsVc_run, opsVc_both, opsVc_chk, opsVc_done, opsVc_yes, pick_cons, pick_nil, List.getElem?_cons_zero, List.getElem?_cons_succ]; simp (maxSteps := 1000000) [hF, dAll, dDeed, dTbs_at hj, hj, hpush]; (try subst hK); try (refine VS.keep [0, 2] ?_; generalize hK : VS _ _ _ = KK; simp; (try subst hK)))
          | (refine VS.keepAt 38 [0, 2] ?_; generalize hK : VS _ _ _ = KK; (try simp); (try subst hK); refine VS.region tabOk (id := 38) [] (by kernel_rfl) ?_; generalize hK : VS _ _ _ = KK; simp (maxSteps := 1000000) [hF, dAll, dDeed, dTbs_at hj, hj, hpush]; (try subst hK); try (refine VS.keep [8] ?_; generalize hK : VS _ _ _ = KK; simp; (try subst hK)))
        try refine VS.ret ?_
        repeat first | refine blockN_ret ?_ | refine loopN_ret ?_
        refine endK.of [8] [0] [(0, [.d])] (by simp [hF]) (by simp [covers, mpre]) ?_
        simp [hF, retK, dAll, e1', hmid, hw1, hw2]
      · refine VS.pick [0, 2, 13] [0, 2] (by simp [hF]) ?_
        generalize hK : VS _ _ _ = KK; simp [hF]; (try subst hK)
        refine VS.lift 0 [.d] (by simp (maxSteps := 1000000) [hF, dAll]) (by simp (maxSteps := 1000000) [hF, dAll]) (by simp [isNode, dAll]) (by simp (maxSteps := 1000000) [hF, dAll]) ?_
        generalize hK : VS _ _ _ = KK; simp [hF, St.lift, AV.lift, liftPl, stripP, nodeAV, dAll]; (try subst hK)
        refine VS.lift 1 [.d, .f 0] (by simp (maxSteps := 1000000) [hF]) (by simp (maxSteps := 1000000) [hF]) (by simp [isNode]) (by simp (maxSteps := 1000000) [hF]) ?_
        generalize hK : VS _ _ _ = KK; simp [hF, St.lift, AV.lift, liftPl, stripP, nodeAV]; (try subst hK)
        refine VS.lift 1 [.d, .f 1] (by simp (maxSteps := 1000000) [hF]) (by simp (maxSteps := 1000000) [hF]) (by simp [isNode]) (by simp (maxSteps := 1000000) [hF]) ?_
        generalize hK : VS _ _ _ = KK; simp [hF, St.lift, AV.lift, liftPl, stripP, nodeAV]; (try subst hK)
        repeat first
          | refine VS.seq ?_
          | refine ⟨⟨by omega, by omega⟩, ?_⟩
          | (refine VS.keepAt 37 [0, 2, 13] ?_; generalize hK : VS _ _ _ = KK; (try simp); (try subst hK); refine VS.drawn tabOk mixedOk (id := 37) [] [⟨0, 1, 200867255532373784442745261542645325315275374222849104412672, 5⟩, ⟨0, 1, 401734511064747568885490523085290650630550748445698208825344, 5⟩, ⟨2, 401734511064747568885490523085290650630550748445698208825344, 803469022129495137770981046170581301261101496891396417650688, 5⟩, ⟨4, 803469022129495137770981046170581301261101496891396417650688, 1606938044258990275541962092341162602522202993782792835301376, 6⟩, ⟨0, 8192, 3213876088517980551083924184682325205044405987565585670602752, 6⟩, ⟨16, 3213876088517980551083924184682325205044405987565585670602752, 6427752177035961102167848369364650410088811975131171341205504, 4⟩, ⟨40, 8034690221294951377709810461705813012611014968913964176506880, 12855504354071922204335696738729300820177623950262342682411008, 0⟩, ⟨127, 200867255532373784442745261542645325315275374222849104412672, 25711008708143844408671393477458601640355247900524685364822016, 5⟩, ⟨255, 38566513062215766613007090216187902460532871850787028047233024, 0, 0⟩] (.take 0 (.take 1 (.take 2 (.take 3 (.take 4 (.fork (.alt 5 (.fork (.alt 6 (.take 7 (.fork (.alt 8 (.done) (.nil)))) (.nil))) (.nil)))))))) (.run [0, 1, 2, 3, 4, 5, 6, 7, 8] (.done)) (by kernel_rfl) (by kernel_rfl) (by kernel_rfl) ?_; generalize hK : VS _ _ _ = KK; simp only [opsVc_run, opsVc_both, opsVc_chk, opsVc_done, opsVc_yes, pick_cons, pick_nil, List.getElem?_cons_zero, List.getElem?_cons_succ]; simp (maxSteps := 1000000) [hF, dAll, dDeed, dTbs_at hj, hj, hpush]; (try subst hK); try (refine VS.keep [0, 2] ?_; generalize hK : VS _ _ _ = KK; simp; (try subst hK)))
          | (refine VS.keepAt 38 [0, 2] ?_; generalize hK : VS _ _ _ = KK; (try simp); (try subst hK); refine VS.region tabOk (id := 38) [] (by kernel_rfl) ?_; generalize hK : VS _ _ _ = KK; simp (maxSteps := 1000000) [hF, dAll, dDeed, dTbs_at hj, hj, hpush]; (try subst hK); try (refine VS.keep [8] ?_; generalize hK : VS _ _ _ = KK; simp; (try subst hK)))
        try refine VS.ret ?_
        repeat first | refine blockN_ret ?_ | refine loopN_ret ?_
        refine endK.of [8] [0] [(0, [.d])] (by simp [hF]) (by simp [covers, mpre]) ?_
        simp [hF, retK, dAll, e1', hmid, hw1, hw2]
end Go.Proofs.Ythcndkpkkaphoaa

/- ShapeTables: an object tells what a table of its own would tell. -/
namespace Go.Proofs.Ythcndkpkkaphoaa
set_option linter.all false
open Go.Vc Go.Proofs
set_option linter.unusedSimpArgs false
set_option maxRecDepth 100000
set_option maxHeartbeats 4000000
attribute [local irreducible] CallW EqK

theorem played1_ok (S : Sp) (hp : 0 < S.shapes.length) {N : Nat} (hS : WF S N) (hN : N < 1000000) (hG : Good S) (d : Deed) (j : Nat) (hj : j < S.objs.length) (hd : d.obj = j) (hn : namedB d.name = true) (hop : 1 ≤ d.op ∧ d.op < 6) :
    Meets Try.prog 26 [dAll S.objs] (.cons (.ptr 0 [.d]) (.cons (avDeed d) (.cons (avInt (doOf S d).2.1) (.cons (avInt (doOf S d).2.2) .nil))))
    fun av X κ => av = .val (.bool true) ∧ X = [dAll (doOf S d).1.objs] ∧ κ = [(0, [.d])] := by
  have h : d.op = 1 ∨ d.op = 2 ∨ d.op = 3 ∨ d.op = 4 ∨ d.op = 5 := by omega
  rcases h with h | h | h | h | h
  · exact played1_1 S hp hS hN hG d j hj hd hn h
  · exact played1_2 S hp hS hN hG d j hj hd hn h
  · exact played1_3 S hp hS hN hG d j hj hd hn h
  · exact played1_4 S hp hS hN hG d j hj hd hn h
  · exact played1_5 S hp hS hN hG d j hj hd hn h

theorem named_small (d : Deed) : namedB (smallOf d).name = true := by
  simp only [smallOf, nameOf_eq]
  have : ∀ n ∈ lnames, namedB n = true := by decide
  exact this _ (List.getElem_mem _)

/- cabochon/cabochonlaw20.ShapeTables -/
theorem tables_ok (ex : Bool) (l : List Deed) : Meets Try.prog 4 [] (.cons (.imm 4 (dDeeds l) ex) .nil) fun av X κ => av = .val (.bool true) := by
  refine Meets.of_vs tabOk Try.func4 (body := ?_) ?_ (by kernel_rfl) Try.ntmps4 (rs := [.tmp 2]) (by kernel_rfl) rfl (by simp [AV.len]) (by simp only [envOf]; exact rfl) ?_
  rotate_left
  · rfl
  intro w0 I0 F0 hF
  repeat first
    | refine VS.seq ?_
    | (refine VS.keepAt 0 [0] ?_; generalize hK : VS _ _ _ = KK; (try simp); (try subst hK); refine VS.region tabOk (id := 0) [] (by kernel_rfl) ?_; generalize hK : VS _ _ _ = KK; simp (maxSteps := 1000000) [hF]; (try subst hK); try (refine VS.keep [0] ?_; generalize hK : VS _ _ _ = KK; simp; (try subst hK)))
    | (refine VS.keepAt 1 [0] ?_; generalize hK : VS _ _ _ = KK; (try simp); (try subst hK); refine VS.region tabOk (id := 1) [] (by kernel_rfl) ?_; generalize hK : VS _ _ _ = KK; simp (maxSteps := 1000000) [hF]; (try subst hK); try (refine VS.keep [0, 3] ?_; generalize hK : VS _ _ _ = KK; simp; (try subst hK)))
  refine (new_ok).call [] (by simp) (by simp (maxSteps := 1000000) [hF]) (by simp (maxSteps := 1000000) [hF]) (by simp (maxSteps := 1000000) [hF]) (by simp) ?_
  rintro av X κ ⟨rfl, rfl, rfl⟩
  generalize hK : VS _ _ _ = KK; simp (maxSteps := 1000000) [hF]; (try subst hK)
  repeat first
    | refine VS.seq ?_
    | refine VS.block ?_
    | (refine VS.keepAt 2 [0, 3] ?_; generalize hK : VS _ _ _ = KK; (try simp); (try subst hK); refine VS.region tabOk (id := 2) [] (by kernel_rfl) ?_; generalize hK : VS _ _ _ = KK; simp (maxSteps := 1000000) [hF, dAll]; (try subst hK); try (refine VS.keep [0, 3, 4] ?_; generalize hK : VS _ _ _ = KK; simp; (try subst hK)))
    | (refine VS.keepAt 3 [0, 3, 4] ?_; generalize hK : VS _ _ _ = KK; (try simp); (try subst hK); refine VS.region tabOk (id := 3) [] (by kernel_rfl) ?_; generalize hK : VS _ _ _ = KK; simp (maxSteps := 1000000) [hF, dAll]; (try subst hK); try (refine VS.keep [0, 3, 4, 5] ?_; generalize hK : VS _ _ _ = KK; simp; (try subst hK)))
  refine VS.rounds (fun m st => ∃ (i : Nat) (S : Sp), i + m = 400 ∧ i ≤ l.length ∧ 0 < S.shapes.length ∧ WF S i ∧ Good S ∧
    st = ⟨[(0, .imm 4 (dDeeds l) ex), (3, .ptr 0 [.d]), (4, .ptr 1 [.d]), (5, avInt i)], [dSp S, dAll S.objs], [], []⟩)
    ⟨400, 0, sp0, by omega, by omega, by simp [sp0], sp0_wf, (by intro o ho; simp [sp0] at ho), by simp [dAll, dTbs, sp0, sq]⟩ ?_
  rintro m st ⟨i, S, him, hil, hpos, hwf, hgood, rfl⟩
  by_cases hfin : i < l.length ∧ i < 400
  case neg =>
    by_cases hlt : i < l.length
    · have b1 : (i : Int) < l.length := by omega
      have b2 : ¬ (i : Int) < 400 := by omega
      repeat first
        | refine VS.seq ?_
        | refine VS.exit ?_
        | (refine VS.keepAt 4 [0, 3, 4, 5] ?_; generalize hK : VS _ _ _ = KK; (try simp); (try subst hK); refine VS.region tabOk (id := 4) [(4, 17)] (by kernel_rfl) ?_; generalize hK : VS _ _ _ = KK; simp (maxSteps := 1000000) [hF, b1, b2]; (try subst hK); try (refine VS.keep [0, 3, 4, 5, 20] ?_; generalize hK : VS _ _ _ = KK; simp; (try subst hK)))
        | (refine VS.keepAt 22 [] ?_; generalize hK : VS _ _ _ = KK; (try simp); (try subst hK); refine VS.region tabOk (id := 22) [] (by kernel_rfl) ?_; generalize hK : VS _ _ _ = KK; simp (maxSteps := 1000000) [hF, b1, b2]; (try subst hK); try (refine VS.keep [2] ?_; generalize hK : VS _ _ _ = KK; simp; (try subst hK)))
        | (refine VS.cond ?_; generalize hK1 : VS _ _ _ = KK1; generalize hK2 : VS _ _ _ = KK2; simp (maxSteps := 1000000) [hF, b1, b2]; (try subst hK1); (try subst hK2))
      refine (sane_ok).call [] (by simp) (by simp (maxSteps := 1000000) [hF]) (by simp (maxSteps := 1000000) [hF]) (by simp (maxSteps := 1000000) [hF]) (by simp) ?_
      rintro av X κ ⟨rfl, rfl, rfl⟩
      generalize hK : VS _ _ _ = KK; simp (maxSteps := 1000000) [hF]; (try subst hK)
      try refine VS.ret ?_
      repeat first | refine blockN_ret ?_ | refine loopN_ret ?_
      refine endK.of [2] [] [] (by simp [hF]) (by simp [covers, mpre]) ?_
      simp [hF, retK]
    · have b1 : ¬ (i : Int) < l.length := by omega
      repeat first
        | refine VS.seq ?_
        | refine VS.exit ?_
        | (refine VS.keepAt 4 [0, 3, 4, 5] ?_; generalize hK : VS _ _ _ = KK; (try simp); (try subst hK); refine VS.region tabOk (id := 4) [(4, 17)] (by kernel_rfl) ?_; generalize hK : VS _ _ _ = KK; simp (maxSteps := 1000000) [hF, b1]; (try subst hK); try (refine VS.keep [0, 3, 4, 5, 20] ?_; generalize hK : VS _ _ _ = KK; simp; (try subst hK)))
        | (refine VS.keepAt 22 [] ?_; generalize hK : VS _ _ _ = KK; (try simp); (try subst hK); refine VS.region tabOk (id := 22) [] (by kernel_rfl) ?_; generalize hK : VS _ _ _ = KK; simp (maxSteps := 1000000) [hF, b1]; (try subst hK); try (refine VS.keep [2] ?_; generalize hK : VS _ _ _ = KK; simp; (try subst hK)))
        | (refine VS.cond ?_; generalize hK1 : VS _ _ _ = KK1; generalize hK2 : VS _ _ _ = KK2; simp (maxSteps := 1000000) [hF, b1]; (try subst hK1); (try subst hK2))
      refine (sane_ok).call [] (by simp) (by simp (maxSteps := 1000000) [hF]) (by simp (maxSteps := 1000000) [hF]) (by simp (maxSteps := 1000000) [hF]) (by simp) ?_
      rintro av X κ ⟨rfl, rfl, rfl⟩
      generalize hK : VS _ _ _ = KK; simp (maxSteps := 1000000) [hF]; (try subst hK)
      try refine VS.ret ?_
      repeat first | refine blockN_ret ?_ | refine loopN_ret ?_
      refine endK.of [2] [] [] (by simp [hF]) (by simp [covers, mpre]) ?_
      simp [hF, retK]
  obtain ⟨hlt, h4⟩ := hfin
  have b1 : (i : Int) < l.length := by omega
  have b2 : (i : Int) < 400 := by omega
  have hn := dDeeds_nth hlt
  have hnext : WF (doOf S (smallOf l[i])).1 (i + 1) ∧ 0 < (doOf S (smallOf l[i])).1.shapes.length := doOf_wf hwf hpos _
  have hgn := doOf_good hwf hgood (smallOf l[i])
  have hnm := named_small l[i]
  have hop0 : 0 ≤ (smallOf l[i]).op := partOf_nonneg _
  have hop6 : (smallOf l[i]).op < 6 := partOf_lt _ (by omega)
  have hob0 : 0 ≤ (smallOf l[i]).obj := partOf_nonneg _
  have hno := hwf.no
  repeat first
    | refine VS.seq ?_
    | refine VS.skip ?_
    | refine VS.block ?_
    | (refine VS.keepAt 4 [0, 3, 4, 5] ?_; generalize hK : VS _ _ _ = KK; (try simp); (try subst hK); refine VS.region tabOk (id := 4) [(4, 17)] (by kernel_rfl) ?_; generalize hK : VS _ _ _ = KK; simp (maxSteps := 1000000) [hF, b1, b2, hn]; (try subst hK); try (refine VS.keep [0, 3, 4, 5, 20] ?_; generalize hK : VS _ _ _ = KK; simp; (try subst hK)))
    | (refine VS.keepAt 6 [0, 3, 4, 5] ?_; generalize hK : VS _ _ _ = KK; (try simp); (try subst hK); refine VS.region tabOk (id := 6) [] (by kernel_rfl) ?_; generalize hK : VS _ _ _ = KK; simp (maxSteps := 1000000) [hF, b1, b2, hn]; (try subst hK); try (refine VS.keep [0, 3, 4, 5, 6] ?_; generalize hK : VS _ _ _ = KK; simp; (try subst hK)))
    | (refine VS.cond ?_; generalize hK1 : VS _ _ _ = KK1; generalize hK2 : VS _ _ _ = KK2; simp (maxSteps := 1000000) [hF, b1, b2, hn]; (try subst hK1); (try subst hK2))
  refine (small_ok l[i]).call [] (by simp) (by simp (maxSteps := 1000000) [hF, avDeed]) (by simp (maxSteps := 1000000) [hF, avDeed]) (by simp (maxSteps := 1000000) [hF, avDeed]) (by simp) ?_
  rintro av X κ ⟨rfl, rfl, rfl⟩
  generalize hK : VS _ _ _ = KK; simp (maxSteps := 1000000) [hF, avDeed]; (try subst hK)
  generalize smallOf l[i] = d at *
  repeat first
    | refine VS.seq ?_
    | (refine VS.keepAt 7 [0, 3, 4, 5, 6] ?_; generalize hK : VS _ _ _ = KK; (try simp); (try subst hK); refine VS.region tabOk (id := 7) [] (by kernel_rfl) ?_; generalize hK : VS _ _ _ = KK; simp (maxSteps := 1000000) [hF]; (try subst hK); try (refine VS.keep [0, 3, 4, 5, 6, 7, 8] ?_; generalize hK : VS _ _ _ = KK; simp; (try subst hK)))
  refine (do_ok S hwf (by omega) d).call [(0, [])] (by simp) (by simp (maxSteps := 1000000) [hF, dSp, avDeed]) (by simp (maxSteps := 1000000) [hF, dSp, avDeed]) (by simp (maxSteps := 1000000) [hF, dSp, avDeed]) (by simp) ?_
  rintro av X κ ⟨rfl, rfl, rfl⟩
  generalize hK : VS _ _ _ = KK; simp (maxSteps := 1000000) [hF, dSp, avDeed]; (try subst hK)
  by_cases hz : d.op = 0
  · have hrb : realB S = true := by simp only [realB, decide_eq_true_eq]; exact hpos
    have hmk : doOf S d = makeOf S := by simp [doOf, hz]
    rw [hmk] at hnext hgn
    by_cases hfull : 100 ≤ S.objs.length
    · have hm : makeOf S = (S, 0, 9) := by unfold makeOf; rw [if_neg (by simp [hrb]), if_pos hfull]
      repeat first
        | refine VS.seq ?_
        | refine VS.skip ?_
        | refine VS.nil ?_
        | refine loopN_normal ?_
        | refine VS.exit ?_
        | refine blockN_hit ?_
        | (refine VS.keepAt 5 [0, 3, 4, 5] ?_; generalize hK : VS _ _ _ = KK; (try simp); (try subst hK); refine VS.region tabOk (id := 5) [] (by kernel_rfl) ?_; generalize hK : VS _ _ _ = KK; simp (maxSteps := 1000000) [hF, hz, hmk, hm]; (try subst hK); try (refine VS.keep [0, 3, 4, 5] ?_; generalize hK : VS _ _ _ = KK; simp; (try subst hK)))
        | (refine VS.keepAt 8 [0, 3, 4, 5, 6, 7, 8] ?_; generalize hK : VS _ _ _ = KK; (try simp); (try subst hK); refine VS.region tabOk (id := 8) [] (by kernel_rfl) ?_; generalize hK : VS _ _ _ = KK; simp (maxSteps := 1000000) [hF, hz, hmk, hm]; (try subst hK); try (refine VS.keep [0, 3, 4, 5, 6, 7, 8, 36] ?_; generalize hK : VS _ _ _ = KK; simp; (try subst hK)))
        | (refine VS.keepAt 9 [0, 3, 4, 5, 8] ?_; generalize hK : VS _ _ _ = KK; (try simp); (try subst hK); refine VS.region tabOk (id := 9) [] (by kernel_rfl) ?_; generalize hK : VS _ _ _ = KK; simp (maxSteps := 1000000) [hF, hz, hmk, hm]; (try subst hK); try (refine VS.keep [0, 3, 4, 5, 38] ?_; generalize hK : VS _ _ _ = KK; simp; (try subst hK)))
        | (refine VS.cond ?_; generalize hK1 : VS _ _ _ = KK1; generalize hK2 : VS _ _ _ = KK2; simp (maxSteps := 1000000) [hF, hz, hmk, hm]; (try subst hK1); (try subst hK2))
      refine nextK.of [0, 3, 4, 5] [0, 1] (m - 1) (by omega) (by simp [hF]) ?_
      refine ⟨i + 1, S, by omega, by omega, hpos, hwf.mono (by omega), hgood, ?_⟩
      simp [dSp, dAll]
      exact IntWalk.i64_in _ (by omega)
    · have hm : makeOf S = (⟨S.shapes, S.objs ++ [⟨0, [], [], false⟩]⟩, (S.objs.length : Int), 0) := by unfold makeOf; rw [if_neg (by simp [hrb]), if_neg hfull]
      rw [hm] at hnext hgn
      have hpush := dTbs_push S.objs ⟨0, [], [], false⟩
      have hmid : (dTbs (S.objs ++ [⟨0, [], [], false⟩])).mid 0 (S.objs.length + 1) = dTbs (S.objs ++ [⟨0, [], [], false⟩]) := sq_mid_all _ _ (by simp)
      have hem : dStrs [] = .nil := rfl
      have hem2 : dInts [] = .nil := rfl
      simp only [hem, hem2] at hpush
      repeat first
        | refine VS.seq ?_
        | (refine VS.keepAt 8 [0, 3, 4, 5, 6, 7, 8] ?_; generalize hK : VS _ _ _ = KK; (try simp); (try subst hK); refine VS.region tabOk (id := 8) [] (by kernel_rfl) ?_; generalize hK : VS _ _ _ = KK; simp (maxSteps := 1000000) [hF, hz, hmk, hm]; (try subst hK); try (refine VS.keep [0, 3, 4, 5, 6, 7, 8, 36] ?_; generalize hK : VS _ _ _ = KK; simp; (try subst hK)))
        | (refine VS.keepAt 9 [0, 3, 4, 5, 8] ?_; generalize hK : VS _ _ _ = KK; (try simp); (try subst hK); refine VS.region tabOk (id := 9) [] (by kernel_rfl) ?_; generalize hK : VS _ _ _ = KK; simp (maxSteps := 1000000) [hF, hz, hmk, hm]; (try subst hK); try (refine VS.keep [0, 3, 4, 5, 38] ?_; generalize hK : VS _ _ _ = KK; simp; (try subst hK)))
        | (refine VS.cond ?_; generalize hK1 : VS _ _ _ = KK1; generalize hK2 : VS _ _ _ = KK2; simp (maxSteps := 1000000) [hF, hz, hmk, hm]; (try subst hK1); (try subst hK2))
      refine VS.lift 1 [.d] (by simp (maxSteps := 1000000) [hF, dAll]) (by simp (maxSteps := 1000000) [hF, dAll]) (by simp [isNode, dAll]) (by simp (maxSteps := 1000000) [hF, dAll]) ?_
      generalize hK : VS _ _ _ = KK; simp [hF, St.lift, AV.lift, liftPl, stripP, nodeAV, dAll]; (try subst hK)
      repeat first
        | refine VS.nil ?_
        | refine loopN_normal ?_
        | refine VS.exit ?_
        | refine blockN_hit ?_
        | refine ⟨⟨by omega, by omega⟩, ?_⟩
        | (refine VS.keepAt 5 [0, 3, 4, 5] ?_; generalize hK : VS _ _ _ = KK; (try simp); (try subst hK); refine VS.region tabOk (id := 5) [] (by kernel_rfl) ?_; generalize hK : VS _ _ _ = KK; simp (maxSteps := 1000000) [hF, hpush, hmid]; (try subst hK); try (refine VS.keep [0, 3, 4, 5] ?_; generalize hK : VS _ _ _ = KK; simp; (try subst hK)))
        | (refine VS.keepAt 10 [0, 3, 4, 5] ?_; generalize hK : VS _ _ _ = KK; (try simp); (try subst hK); refine VS.region tabOk (id := 10) [] (by kernel_rfl) ?_; generalize hK : VS _ _ _ = KK; simp (maxSteps := 1000000) [hF, hpush, hmid]; (try subst hK); try (refine VS.keep [0, 3, 4, 5] ?_; generalize hK : VS _ _ _ = KK; simp; (try subst hK)))
      refine nextK.of [0, 3, 4, 5] [0, 1] (m - 1) (by omega) (by simp [hF]) ?_
      refine ⟨i + 1, _, by omega, by omega, hnext.2, hnext.1, hgn, ?_⟩
      simp [dSp, dAll]
      exact IntWalk.i64_in _ (by omega)
  · by_cases hob : d.obj < S.objs.length
    · obtain ⟨j, hj⟩ : ∃ j : Nat, d.obj = j := ⟨d.obj.toNat, by omega⟩
      have hjl : j < S.objs.length := by omega
      have hob' : ¬ (S.objs.length : Int) ≤ d.obj := by omega
      repeat first
        | refine VS.seq ?_
        | refine VS.skip ?_
        | (refine VS.keepAt 8 [0, 3, 4, 5, 6, 7, 8] ?_; generalize hK : VS _ _ _ = KK; (try simp); (try subst hK); refine VS.region tabOk (id := 8) [] (by kernel_rfl) ?_; generalize hK : VS _ _ _ = KK; simp (maxSteps := 1000000) [hF, hz, hob, hob', dAll, dDeed]; (try subst hK); try (refine VS.keep [0, 3, 4, 5, 6, 7, 8, 36] ?_; generalize hK : VS _ _ _ = KK; simp; (try subst hK)))
        | (refine VS.keepAt 11 [0, 3, 4, 5, 6, 7, 8] ?_; generalize hK : VS _ _ _ = KK; (try simp); (try subst hK); refine VS.region tabOk (id := 11) [] (by kernel_rfl) ?_; generalize hK : VS _ _ _ = KK; simp (maxSteps := 1000000) [hF, hz, hob, hob', dAll, dDeed]; (try subst hK); try (refine VS.keep [0, 3, 4, 5, 6, 7, 8, 47] ?_; generalize hK : VS _ _ _ = KK; simp; (try subst hK)))
        | (refine VS.keepAt 14 [0, 3, 4, 5, 6, 7, 8] ?_; generalize hK : VS _ _ _ = KK; (try simp); (try subst hK); refine VS.region tabOk (id := 14) [] (by kernel_rfl) ?_; generalize hK : VS _ _ _ = KK; simp (maxSteps := 1000000) [hF, hz, hob, hob', dAll, dDeed]; (try subst hK); try (refine VS.keep [0, 3, 4, 5, 54] ?_; generalize hK : VS _ _ _ = KK; simp; (try subst hK)))
        | (refine VS.cond ?_; generalize hK1 : VS _ _ _ = KK1; generalize hK2 : VS _ _ _ = KK2; simp (maxSteps := 1000000) [hF, hz, hob, hob', dAll, dDeed]; (try subst hK1); (try subst hK2))
      refine (played1_ok S hpos hwf (by omega) hgood d j hjl hj hnm ⟨by omega, by omega⟩).call [(1, [])] (by simp) (by simp (maxSteps := 1000000) [hF, dAll, avDeed, dDeed]) (by simp (maxSteps := 1000000) [hF, dAll, avDeed, dDeed]) (by simp (maxSteps := 1000000) [hF, dAll, avDeed, dDeed]) (by simp) ?_
      rintro av X κ ⟨rfl, rfl, rfl⟩
      generalize hK : VS _ _ _ = KK; simp (maxSteps := 1000000) [hF, dAll, avDeed, dDeed]; (try subst hK)
      generalize (doOf S d).1 = S1 at *
      obtain ⟨hwf1, hpos1⟩ := hnext
      have hno1 := hwf1.no
      repeat first
        | refine VS.seq ?_
        | refine VS.skip ?_
        | refine VS.block ?_
        | (refine VS.keepAt 16 [0, 3, 4, 5] ?_; generalize hK : VS _ _ _ = KK; (try simp); (try subst hK); refine VS.region tabOk (id := 16) [] (by kernel_rfl) ?_; generalize hK : VS _ _ _ = KK; simp (maxSteps := 1000000) [hF]; (try subst hK); try (refine VS.keep [0, 3, 4, 5, 9] ?_; generalize hK : VS _ _ _ = KK; simp; (try subst hK)))
        | (refine VS.cond ?_; generalize hK1 : VS _ _ _ = KK1; generalize hK2 : VS _ _ _ = KK2; simp (maxSteps := 1000000) [hF]; (try subst hK1); (try subst hK2))
      refine VS.pick [0, 3, 4, 5, 9] [0, 1] (by simp [hF]) ?_
      generalize hK : VS _ _ _ = KK; simp [hF]; (try subst hK)
      refine VS.rounds (fun m1 st => ∃ (o : Nat), o + m1 = S1.objs.length ∧
        st = ⟨[(0, .imm 4 (dDeeds l) ex), (3, .ptr 0 [.d]), (4, .ptr 1 [.d]), (5, avInt i), (9, avInt o)], [dSp S1, dAll S1.objs], [], []⟩) ⟨S1.objs.length, 0, by omega, by simp [dSp, dAll]⟩ ?_
      rintro m1 st ⟨o, hom, rfl⟩
      repeat first
        | refine VS.seq ?_
        | (refine VS.keepAt 17 [0, 3, 4, 5, 9] ?_; generalize hK : VS _ _ _ = KK; (try simp); (try subst hK); refine VS.region tabOk (id := 17) [] (by kernel_rfl) ?_; generalize hK : VS _ _ _ = KK; simp (maxSteps := 1000000) [hF, dAll]; (try subst hK); try (refine VS.keep [0, 3, 4, 5, 9, 58] ?_; generalize hK : VS _ _ _ = KK; simp; (try subst hK)))
        | (refine VS.cond ?_; generalize hK1 : VS _ _ _ = KK1; generalize hK2 : VS _ _ _ = KK2; simp (maxSteps := 1000000) [hF, dAll]; (try subst hK1); (try subst hK2))
      refine ⟨fun hlt1 => ?_, fun hge1 => ?_⟩
      · have hol : o < S1.objs.length := by omega
        have hb : hasB S1 o = true := by simp [hasB]; omega
        have hoo := hwf1.ob _ (List.getElem_mem hol)
        have hnl := hoo.names_len
        have hta := dTbs_at hol
        repeat first
          | refine VS.seq ?_
          | refine VS.skip ?_
          | refine VS.block ?_
          | (refine VS.keepAt 19 [0, 3, 4, 5, 9] ?_; generalize hK : VS _ _ _ = KK; (try simp); (try subst hK); refine VS.region tabOk (id := 19) [] (by kernel_rfl) ?_; generalize hK : VS _ _ _ = KK; simp (maxSteps := 1000000) [hF]; (try subst hK); try (refine VS.keep [0, 3, 4, 5, 9, 10] ?_; generalize hK : VS _ _ _ = KK; simp; (try subst hK)))
        refine (names1_yes S1 hwf1 (by omega) o hb).call [(0, [])] (by simp) (by simp (maxSteps := 1000000) [hF, dSp, obAt_eq hol]) (by simp (maxSteps := 1000000) [hF, dSp, obAt_eq hol]) (by simp (maxSteps := 1000000) [hF, dSp, obAt_eq hol]) (by simp) ?_
        rintro av X κ ⟨rfl, rfl, rfl⟩
        generalize hK : VS _ _ _ = KK; simp (maxSteps := 1000000) [hF, dSp, obAt_eq hol]; (try subst hK)
        repeat first
          | refine VS.seq ?_
          | (refine VS.keepAt 20 [0, 3, 4, 5, 9, 10] ?_; generalize hK : VS _ _ _ = KK; (try simp); (try subst hK); refine VS.region tabOk (id := 20) [] (by kernel_rfl) ?_; generalize hK : VS _ _ _ = KK; simp (maxSteps := 1000000) [hF, hol, hta]; (try subst hK); try (refine VS.keep [0, 3, 4, 5, 9, 74] ?_; generalize hK : VS _ _ _ = KK; simp; (try subst hK)))
        refine (same_ok true true false false S1.objs[o].names S1.objs[o].names (by omega)).call [(2, []), (1, [.d, .i o, .f 0])] (by simp) (by simp (maxSteps := 1000000) [hF, dAll, hol, hta]) (by simp (maxSteps := 1000000) [hF, dAll, hol, hta]) (by simp (maxSteps := 1000000) [hF, dAll, hol, hta]) (by simp) ?_
        rintro av X κ ⟨rfl, rfl, rfl⟩
        generalize hK : VS _ _ _ = KK; simp (maxSteps := 1000000) [hF, dAll, hol, hta]; (try subst hK)
        repeat first
          | refine VS.skip ?_
          | refine VS.nil ?_
          | refine blockN_normal ?_
          | refine loopN_normal ?_
          | (refine VS.keepAt 18 [0, 3, 4, 5, 9] ?_; generalize hK : VS _ _ _ = KK; (try simp); (try subst hK); refine VS.region tabOk (id := 18) [] (by kernel_rfl) ?_; generalize hK : VS _ _ _ = KK; simp (maxSteps := 1000000) [hF]; (try subst hK); try (refine VS.keep [0, 3, 4, 5, 9] ?_; generalize hK : VS _ _ _ = KK; simp; (try subst hK)))
          | (refine VS.cond ?_; generalize hK1 : VS _ _ _ = KK1; generalize hK2 : VS _ _ _ = KK2; simp (maxSteps := 1000000) [hF]; (try subst hK1); (try subst hK2))
        refine nextK.of [0, 3, 4, 5, 9] [0, 1] (m1 - 1) (by omega) (by simp [hF]) ?_
        refine ⟨o + 1, by omega, ?_⟩
        simp [dSp, dAll]
        refine ⟨IntWalk.i64_in _ (by omega), ?_⟩
        rw [dTbs_set S1.objs o S1.objs[o], List.set_getElem_self]
      · repeat first
          | refine VS.nil ?_
          | refine blockN_normal ?_
          | refine loopN_normal ?_
          | refine VS.exit ?_
          | (refine VS.keepAt 5 [0, 3, 4, 5] ?_; generalize hK : VS _ _ _ = KK; (try simp); (try subst hK); refine VS.region tabOk (id := 5) [] (by kernel_rfl) ?_; generalize hK : VS _ _ _ = KK; simp (maxSteps := 1000000) [hF]; (try subst hK); try (refine VS.keep [0, 3, 4, 5] ?_; generalize hK : VS _ _ _ = KK; simp; (try subst hK)))
        refine nextK.of [0, 3, 4, 5] [0, 1] (m - 1) (by omega) (by simp [hF]) ?_
        refine ⟨i + 1, S1, by omega, by omega, hpos1, hwf1, hgn, ?_⟩
        simp [dSp, dAll]
        exact IntWalk.i64_in _ (by omega)
    · have hb : hasB S d.obj = false := by simp [hasB]; omega
      have hnone := do_none ⟨by omega, by omega⟩ hb
      have hob' : (S.objs.length : Int) ≤ d.obj := by omega
      repeat first
        | refine VS.seq ?_
        | refine VS.skip ?_
        | refine VS.nil ?_
        | refine loopN_normal ?_
        | refine VS.exit ?_
        | refine blockN_hit ?_
        | (refine VS.keepAt 5 [0, 3, 4, 5] ?_; generalize hK : VS _ _ _ = KK; (try simp); (try subst hK); refine VS.region tabOk (id := 5) [] (by kernel_rfl) ?_; generalize hK : VS _ _ _ = KK; simp (maxSteps := 1000000) [hF, hz, hob, hob', hnone, dAll, dDeed]; (try subst hK); try (refine VS.keep [0, 3, 4, 5] ?_; generalize hK : VS _ _ _ = KK; simp; (try subst hK)))
        | (refine VS.keepAt 8 [0, 3, 4, 5, 6, 7, 8] ?_; generalize hK : VS _ _ _ = KK; (try simp); (try subst hK); refine VS.region tabOk (id := 8) [] (by kernel_rfl) ?_; generalize hK : VS _ _ _ = KK; simp (maxSteps := 1000000) [hF, hz, hob, hob', hnone, dAll, dDeed]; (try subst hK); try (refine VS.keep [0, 3, 4, 5, 6, 7, 8, 36] ?_; generalize hK : VS _ _ _ = KK; simp; (try subst hK)))
        | (refine VS.keepAt 11 [0, 3, 4, 5, 6, 7, 8] ?_; generalize hK : VS _ _ _ = KK; (try simp); (try subst hK); refine VS.region tabOk (id := 11) [] (by kernel_rfl) ?_; generalize hK : VS _ _ _ = KK; simp (maxSteps := 1000000) [hF, hz, hob, hob', hnone, dAll, dDeed]; (try subst hK); try (refine VS.keep [0, 3, 4, 5, 6, 7, 8, 47] ?_; generalize hK : VS _ _ _ = KK; simp; (try subst hK)))
        | (refine VS.keepAt 12 [0, 3, 4, 5, 8] ?_; generalize hK : VS _ _ _ = KK; (try simp); (try subst hK); refine VS.region tabOk (id := 12) [] (by kernel_rfl) ?_; generalize hK : VS _ _ _ = KK; simp (maxSteps := 1000000) [hF, hz, hob, hob', hnone, dAll, dDeed]; (try subst hK); try (refine VS.keep [0, 3, 4, 5, 49] ?_; generalize hK : VS _ _ _ = KK; simp; (try subst hK)))
        | (refine VS.cond ?_; generalize hK1 : VS _ _ _ = KK1; generalize hK2 : VS _ _ _ = KK2; simp (maxSteps := 1000000) [hF, hz, hob, hob', hnone, dAll, dDeed]; (try subst hK1); (try subst hK2))
      refine nextK.of [0, 3, 4, 5] [0, 1] (m - 1) (by omega) (by simp [hF]) ?_
      refine ⟨i + 1, S, by omega, by omega, hpos, hwf.mono (by omega), hgood, ?_⟩
      simp [dSp, dAll]
      exact IntWalk.i64_in _ (by omega)
end Go.Proofs.Ythcndkpkkaphoaa

/- From what a row's argument reads as to trees that cannot change. -/
namespace Go.Vc
set_option linter.all false
open T (hdr blk)

/-- The blocks that are there. -/
abbrev allB (w : World) : Nat → Prop := fun b => b < w.heap.size

/-- What a reading of a type shows: a tree that cannot change, of 'z' cells, with such a content. -/
def Reads (P : Program) (t : TypeId) (z : Nat) (good : D → Prop) : Prop :=
  ∀ (H : Type) (enc : TypeId × Value → H) (w : World) (fuel : Nat) (cs : List Value) (x : DataW H × List MemPlace), DataW.trod enc P w 0 (fun _ => true) true fuel t cs = some x →
    ∃ g : G, T.Holds w.heap (allB w) g ∧ g.free = true ∧ g.cells = cs ∧ g.width = z ∧ good g.erase

theorem reads_int {P : Program} {t : TypeId} {k : IntKind} (ht : P.underlying t = some (.int k)) : Reads P t 1 fun d => ∃ n, d = .val (.int k n) := fun H enc w fuel cs x h => by
  obtain ⟨n, rfl, _, _⟩ := DataW.trod_int ht h
  exact ⟨.val (.int k n), rfl, rfl, rfl, rfl, n, rfl⟩
theorem reads_str {P : Program} {t : TypeId} (ht : P.underlying t = some .string) : Reads P t 1 fun d => ∃ s, d = .val (.string s) := fun H enc w fuel cs x h => by
  obtain ⟨s, rfl, _, _⟩ := DataW.trod_string ht h
  exact ⟨.val (.string s), rfl, rfl, rfl, rfl, s, rfl⟩
theorem reads_bool {P : Program} {t : TypeId} (ht : P.underlying t = some .bool) : Reads P t 1 fun d => ∃ b, d = .val (.bool b) := fun H enc w fuel cs x h => by
  obtain ⟨b, rfl, _⟩ := DataW.trod_bool ht h
  exact ⟨.val (.bool b), rfl, rfl, rfl, rfl, b, rfl⟩

/-- The fields of a struct, one behind the other. -/
def FieldsRead (P : Program) : List Field → List (Nat × (D → Prop)) → Nat → Prop
  | [], [], _ => True
  | f :: fs, (z, good) :: r, o => Reads P f.type z good ∧ P.cellsOf f.type = z ∧ f.offset = o ∧ FieldsRead P fs r (o + z)
  | _, _, _ => False
def fieldsGood : List (Nat × (D → Prop)) → D → Prop
  | [], d => d = .nil
  | (_, good) :: r, d => ∃ a t, d = .cons a t ∧ good a ∧ fieldsGood r t
def fieldsSize : List (Nat × (D → Prop)) → Nat
  | [] => 0
  | (z, _) :: r => z + fieldsSize r

theorem reads_struct {P : Program} {t : TypeId} {fs : Array Field} (ht : P.underlying t = some (.struct fs)) {gs : List (Nat × (D → Prop))} (hf : FieldsRead P fs.toList gs 0) (hz : P.cellsOf t = fieldsSize gs) :
    Reads P t (fieldsSize gs) fun d => ∃ s, d = .agg s ∧ fieldsGood gs s := fun H enc w fuel cs x h => by
  obtain ⟨xs, n, _, _, hl, hlen, he⟩ := DataW.trod_struct ht h
  have each : ∀ f ∈ fs.toList, ∃ y, DataW.trod enc P w 0 (fun _ => true) true n f.type ((cs.drop f.offset).take (P.cellsOf f.type)) = some y := fun f hm => by
    obtain ⟨i, hi, rfl⟩ := List.getElem_of_mem hm
    have h1 := he i fs[i] (by simp at hi; simp [hi])
    rw [List.getElem?_eq_getElem (by simp at hi; omega)] at h1
    exact ⟨_, h1⟩
  have key : ∀ (l : List Field) (gs : List (Nat × (D → Prop))) (o : Nat), FieldsRead P l gs o → (∀ f ∈ l, f ∈ fs.toList) → cs.length = o + fieldsSize gs →
      ∃ s : G, T.Holds w.heap (allB w) s ∧ s.free = true ∧ s.cells = cs.drop o ∧ s.width = fieldsSize gs ∧ fieldsGood gs s.erase := by
    intro l
    induction l with
    | nil =>
      intro gs o h1 _ h2
      cases gs with
      | nil => exact ⟨.nil, trivial, rfl, by simp only [fieldsSize] at h2; simp [T.cells, h2], rfl, rfl⟩
      | cons _ _ => exact h1.elim
    | cons f l ih =>
      intro gs o h1 hm h2
      cases gs with
      | nil => exact h1.elim
      | cons p r =>
        obtain ⟨z, good⟩ := p
        obtain ⟨k1, k2, k3, k4⟩ := h1
        simp only [fieldsSize] at h2
        obtain ⟨s, s1, s2, s3, s4, s5⟩ := ih r (o + z) k4 (fun f hf => hm f (by simp [hf])) (by omega)
        obtain ⟨y, hy⟩ := each f (hm f (by simp))
        obtain ⟨g, g1, g2, g3, g4, g5⟩ := k1 H enc w n _ y hy
        refine ⟨.cons g s, ⟨g1, s1⟩, by simp [T.free, g2, s2], ?_, by simp [T.width, g4, s4, fieldsSize], _, _, rfl, g5, s5⟩
        simp only [T.cells, g3, s3, k2, k3]
        rw [← List.drop_drop, List.take_append_drop]
  obtain ⟨s, s1, s2, s3, s4, s5⟩ := key fs.toList gs 0 hf (fun _ h => h) (by rw [hl, hz]; omega)
  exact ⟨.agg s, s1, s2, by simpa [T.cells] using s3, s4, _, rfl, s5⟩

theorem erase_agg {g : G} {s : D} (h : g.erase = .agg s) : ∃ s', g = .agg s' ∧ s'.erase = s := by
  cases g <;> simp only [T.erase] at h <;> cases h
  exact ⟨_, rfl, rfl⟩
theorem erase_cons {g : G} {a t : D} (h : g.erase = .cons a t) : ∃ a' t', g = .cons a' t' ∧ a'.erase = a ∧ t'.erase = t := by
  cases g <;> simp only [T.erase] at h <;> cases h
  exact ⟨_, _, rfl, rfl, rfl⟩
theorem erase_val {g : G} {v : Value} (h : g.erase = .val v) : g = .val v := by
  cases g <;> simp only [T.erase] at h <;> cases h
  rfl
theorem erase_nil {g : G} (h : g.erase = .nil) : g = .nil := by
  cases g <;> simp only [T.erase] at h <;> cases h
  rfl

theorem map_of {α β : Type} {f : β → α} : ∀ {l : List α}, (∀ x ∈ l, ∃ y, x = f y) → ∃ ys : List β, l = ys.map f
  | [], _ => ⟨[], rfl⟩
  | x :: l, h => by
    obtain ⟨y, hy⟩ := h x (by simp)
    obtain ⟨ys, hys⟩ := map_of (l := l) (f := f) fun x hx => h x (List.mem_cons_of_mem _ hx)
    exact ⟨y :: ys, by rw [hy, hys]; rfl⟩

theorem cells?_at {w : World} {a : Addr} {n : Nat} {cs : List Value} (h : w.cells? 0 a n = some cs) : cs.length = n ∧ ∀ r v, cs[r]? = some v → w.cell? (a.add r) = some v := by
  obtain ⟨_, h1, h2⟩ := World.cells?_some h
  refine ⟨h1, fun r v hv => ?_⟩
  have hr : r < n := by rw [← h1]; exact (List.getElem?_eq_some_iff.1 hv).1
  have := h2 r hr
  rw [this, hv]

/-- The elements of a slice, one behind the other. -/
theorem reads_elems {P : Program} {e : TypeId} {z : Nat} {good : D → Prop} (he : Reads P e z good) {H : Type} {enc : TypeId × Value → H} {w : World} {n : Nat} {at_ : Nat → List Value} : ∀ (len i0 : Nat),
    (∀ i, i < len → ∃ y, DataW.trod enc P w 0 (fun _ => true) true n e (at_ (i0 + i)) = some y) →
    ∃ s : G, ∃ l : List D, T.Holds w.heap (allB w) s ∧ s.free = true ∧ s.uni z ∧ s.len = len ∧ s.erase = sq l ∧ l.length = len ∧ (∀ d ∈ l, good d) ∧ s.cells = ((List.range len).map fun i => at_ (i0 + i)).flatten
  | 0, i0, _ => ⟨.nil, [], trivial, rfl, trivial, rfl, rfl, rfl, by simp, rfl⟩
  | len + 1, i0, h => by
    obtain ⟨y, hy⟩ := h 0 (by omega)
    obtain ⟨g, g1, g2, g3, g4, g5⟩ := he H enc w n _ y hy
    obtain ⟨s, l, s1, s2, s3, s4, s5, s6, s7, s8⟩ := reads_elems he len (i0 + 1) fun i hi => by
      have := h (i + 1) (by omega)
      rwa [show i0 + (i + 1) = i0 + 1 + i by omega] at this
    refine ⟨.cons g s, g.erase :: l, ⟨g1, s1⟩, by simp [T.free, g2, s2], ⟨g4, s3⟩, by simp [T.len, s4], by simp [T.erase, sq, s5], by simp [s6], fun d hd => ?_, ?_⟩
    · rcases List.mem_cons.1 hd with rfl | hd
      · exact g5
      · exact s7 d hd
    · rw [List.range_succ_eq_map]
      simp only [T.cells, g3, s8, List.map_cons, List.flatten_cons, List.map_map, Nat.add_zero]
      congr 3
      funext i
      simp only [Function.comp]
      congr 1; omega

theorem flat_at {α : Type} {z : Nat} (hz : 0 < z) : ∀ (l : List (List α)) (_ : ∀ c ∈ l, c.length = z) (j : Nat) (v : α), l.flatten[j]? = some v → ∃ c, l[j / z]? = some c ∧ c[j % z]? = some v
  | [], _, j, v, h => by simp at h
  | c :: l, hl, j, v, h => by
    have hc := hl c (by simp)
    simp only [List.flatten_cons] at h
    rcases Nat.lt_or_ge j z with hj | hj
    · rw [List.getElem?_append_left (by omega)] at h
      exact ⟨c, by rw [Nat.div_eq_of_lt hj]; rfl, by rw [Nat.mod_eq_of_lt hj]; exact h⟩
    · rw [List.getElem?_append_right (by omega), hc] at h
      obtain ⟨c', h1, h2⟩ := flat_at hz l (fun c hc => hl c (by simp [hc])) (j - z) v h
      refine ⟨c', ?_, ?_⟩
      · rw [show j / z = (j - z) / z + 1 by rw [Nat.div_eq_sub_div hz hj]]; simpa using h1
      · rw [Nat.mod_eq_sub_mod hj]; exact h2

/-- A slice that is an argument: it cannot change. -/
theorem imm_of_trod {P : Program} {t e : TypeId} {z : Nat} {good : D → Prop} (ht : P.underlying t = some (.slice e)) (he : Reads P e z good) (hc : P.cellsOf e = z) (hz : 0 < z) {H : Type} {enc : TypeId × Value → H} {w : World}
    {r : Reach} {b0 : Nat} {v : Value} {d : DataW H} {ps : List MemPlace} (hv : Value.okWide P w r b0 t v) (h : DataW.Trod enc P w 0 (fun _ => true) true t v d ps) :
    ∃ l : List D, (∀ d ∈ l, good d) ∧ l.length ≤ 2 ^ 63 - 1 ∧ Rl w.heap (allB w) [] (.imm z (sq l) false) true [v] := by
  obtain ⟨fuel, h⟩ := h
  have hok : Cell.ok P w r b0 t v := by
    unfold Value.okWide at hv
    rw [ht] at hv
    simp only [Cell.okWide, ht] at hv
    exact hv
  have hform : v = .slice none 0 0 ∨ ∃ a len cap, v = .slice (some a) len cap ∧ len ≤ cap ∧ (cap : Int) ≤ IntKind.i64.max ∧ a.spot = none := by
    unfold Cell.ok at hok
    rw [ht] at hok
    split at hok <;> try exact hok.elim
    all_goals first
      | (rename_i heq; cases heq; done)
      | skip
    · exact .inl rfl
    · exact .inr ⟨_, _, _, rfl, hok.1, hok.2.1, hok.2.2.2.1⟩
  rcases hform with rfl | ⟨a, len, cap, rfl, hlc, hcm, hspot⟩
  · exact ⟨[], by simp, by simp, _, rfl, .nil, rfl, ⟨trivial, trivial, fun _ => rfl, rfl, rfl, rfl⟩, fun h => by cases h⟩
  · obtain ⟨b, o, sp⟩ := a
    simp only at hspot
    subst hspot
    have hcm' : cap ≤ 2 ^ 63 - 1 := by
      have : IntKind.i64.max = 2 ^ 63 - 1 := by decide
      omega
    rcases cap with _ | cap
    · obtain rfl : len = 0 := by omega
      exact ⟨[], by simp, by simp, _, rfl, .nil, rfl, ⟨trivial, trivial, fun _ => rfl, rfl, rfl, rfl⟩, fun h => by cases h⟩
    · rcases DataW.trod_slice ht h with ⟨h0, _⟩ | ⟨a, len', cap', elems, rest, n, _, h0, _, hb, hl, hm, hlen, hel, hsp, _⟩
      · simp [Value.cells] at h0
      · simp only [Value.cells, List.cons.injEq, Value.slice.injEq, Option.some.injEq, and_true] at h0
        obtain ⟨rfl, rfl, rfl⟩ := h0
        obtain ⟨hsp1, hsp2⟩ := hsp rfl
        have hadd : ∀ k, (⟨b, o, none⟩ : Addr).add k = ⟨b, o + k, none⟩ := fun k => by unfold Addr.add; split <;> simp_all
        rw [hc] at hel hsp2
        -- every element reads
        have each : ∀ i, i < cap + 1 → ∃ cs, w.cells? 0 ((⟨b, o, none⟩ : Addr).add (i * z)) z = some cs ∧ ∃ y, DataW.trod enc P w 0 (fun _ => true) true n e cs = some y := fun i hi => by
          by_cases h1 : i < len
          · have h2 := hel i h1
            rw [List.getElem?_eq_getElem (by omega)] at h2
            obtain ⟨cs, h3, h4⟩ := Option.bind_eq_some_iff.1 h2
            exact ⟨cs, h3, _, h4⟩
          · have h2 := hsp2 (i - len) (by omega)
            rw [List.getElem?_eq_getElem (by omega), show len + (i - len) = i by omega] at h2
            obtain ⟨cs, h3, h4⟩ := Option.bind_eq_some_iff.1 h2
            exact ⟨cs, h3, _, h4⟩
        -- the row
        obtain ⟨csl, hl1, _⟩ := each cap (by omega)
        obtain ⟨hl2, hl3⟩ := cells?_at hl1
        have hl4 := hl3 (z - 1) _ (List.getElem?_eq_getElem (by omega))
        rw [hadd] at hl4
        have hadd2 : ∀ (o' k : Nat), (⟨b, o', none⟩ : Addr).add k = ⟨b, o' + k, none⟩ := fun o' k => by unfold Addr.add; split <;> simp_all
        rw [hadd2] at hl4
        obtain ⟨row, e', fr, hrow⟩ : ∃ row e' fr, w.heap[b]? = some (.cells row e' fr) := by
          unfold World.cell? at hl4
          split at hl4
          · rename_i c _ _ heq; exact ⟨_, _, _, heq⟩
          · cases hl4
        have cell : ∀ k v, w.cell? ⟨b, k, none⟩ = some v → row[k]? = some v := fun k v hk => by
          unfold World.cell? at hk
          simp only [hrow] at hk
          simpa using hk
        have hblt : b < w.heap.size := by
          rcases Nat.lt_or_ge b w.heap.size with h' | h'
          · exact h'
          · rw [Array.getElem?_eq_none h'] at hrow; cases hrow
        have hsz : o + (cap + 1) * z ≤ row.size := by
          have h5 := cell _ _ hl4
          have h6 := (Array.getElem?_eq_some_iff.1 h5).1
          rw [Nat.add_mul]; omega
        obtain ⟨s, l, s1, s2, s3, s4, s5, s6, s7, s8⟩ := reads_elems (enc := enc) (w := w) (n := n) (at_ := fun i => (w.cells? 0 ((⟨b, o, none⟩ : Addr).add (i * z)) z).getD []) he len 0 fun i hi => by
          obtain ⟨cs, h1, h2⟩ := each (0 + i) (by omega)
          rw [h1]; exact h2
        refine ⟨l, s7, by omega, _, rfl, s, s5, ⟨s1, s3, fun _ => s2, rfl, s4.symm, hlc, hcm', fun _ => hblt, row, e', fr, hrow, (fun h => by cases h), hsz, fun j v hj => ?_⟩, fun h => by cases h⟩
        rw [s8] at hj
        obtain ⟨c, c1, c2⟩ := flat_at hz _ (fun c hcm => by
          obtain ⟨i, hi, rfl⟩ := List.mem_map.1 hcm
          obtain ⟨cs, h1, _⟩ := each (0 + i) (by have := List.mem_range.1 hi; omega)
          rw [h1]; exact (cells?_at h1).1) j v hj
        rw [List.getElem?_map] at c1
        cases hr : (List.range len)[j / z]? with
        | none => rw [hr] at c1; cases c1
        | some i =>
          rw [hr] at c1
          obtain ⟨hi1, hi2⟩ := List.getElem?_eq_some_iff.1 hr
          simp only [List.length_range] at hi1
          simp only [List.getElem_range] at hi2
          subst hi2
          obtain ⟨cs, h1, _⟩ := each (0 + j / z) (by omega)
          simp only [Option.map_some, Option.some.injEq, h1, Option.getD_some] at c1
          subst c1
          have h2 := (cells?_at h1).2 _ _ c2
          rw [hadd, hadd2] at h2
          have h3 := cell _ _ h2
          rw [← h3]
          congr 1
          have := Nat.div_add_mod j z
          rw [Nat.mul_comm] at this
          simp only [Nat.zero_add]
          omega
end Go.Vc
