/- The reference's adding of a name. -/
import Derived.Test.YthcndkpkkaphoaaK4
import Derived.Test.YthcndkpkkaphoaaK3
import Derived.ChangeArms
import Derived.ChangeSlices
import Derived.Carry
namespace Go.Proofs.Ythcndkpkkaphoaa
set_option linter.all false
open Go.Vc Go.Proofs
set_option linter.unusedSimpArgs false
set_option maxRecDepth 100000
set_option maxHeartbeats 4000000
attribute [local irreducible] CallW EqK

/-- The shape below one with a name more; it is made where there is room. -/
def rbelow (l : List Sh) (k : Nat) (n : ByteArray) : List Sh × Int :=
  if 0 ≤ belowOf l k n then (l, belowOf l k n)
  else if 200 ≤ l.length then (l, -1)
  else (l ++ [⟨(k : Int), (l.getD k ⟨0, []⟩).names ++ [n]⟩], (l.length : Int))

/- (*cabochon/cabochonref20.Space).below -/
theorem rbelow_ok (S : Sp) (hS : ShOk S.shapes) (k : Nat) (hk : k < S.shapes.length) (n : ByteArray) : Meets Try.prog 67 [dRSp S] (.cons (.ptr 0 [.d]) (.cons (avInt k) (.cons (.val (.string n)) .nil)))
    fun av X κ => av = avInt (rbelow S.shapes k n).2 ∧ X = [dRSp ⟨(rbelow S.shapes k n).1, S.objs⟩] ∧ κ = [(0, [.d, .f 1])] := by
  refine Meets.of_vs tabOk Try.func67 (body := ?_) ?_ (by kernel_rfl) Try.ntmps67 (rs := [.tmp 6]) (by kernel_rfl) rfl (by simp [AV.len]) (by simp only [envOf]; exact rfl) ?_
  rotate_left
  · rfl
  intro w0 I0 F0 hF
  repeat first
    | refine VS.seq ?_
    | refine VS.block ?_
    | (refine VS.region tabOk (id := 0) [] (by kernel_rfl) ?_; generalize hK : VS _ _ _ = KK; simp (maxSteps := 1000000) [hF]; (try subst hK); try (refine VS.keep [0, 1, 2] ?_; generalize hK : VS _ _ _ = KK; simp; (try subst hK)))
    | (refine VS.region tabOk (id := 1) [] (by kernel_rfl) ?_; generalize hK : VS _ _ _ = KK; simp (maxSteps := 1000000) [hF]; (try subst hK); try (refine VS.keep [0, 1, 2, 7] ?_; generalize hK : VS _ _ _ = KK; simp; (try subst hK)))
  have hns := hS.ns
  refine VS.rounds (fun m st => ∃ (i : Nat), i + m = S.shapes.length ∧ (∀ j, j < i → ∀ hj : j < S.shapes.length, (decide (S.shapes[j].parent = (k : Int)) && decide (lastName S.shapes[j].names = n)) = false) ∧
    st = ⟨[(0, .ptr 0 [.d]), (1, avInt k), (2, .val (.string n)), (7, avInt i)], [dRSp S], [], []⟩) ⟨S.shapes.length, 0, by simp, by simp, rfl⟩ ?_
  rintro m st ⟨i, hi, hall, rfl⟩
  repeat first
    | refine VS.seq ?_
    | (refine VS.region tabOk (id := 2) [] (by kernel_rfl) ?_; generalize hK : VS _ _ _ = KK; simp (maxSteps := 1000000) [hF, dRSp, dBool]; (try subst hK); try (refine VS.keep [0, 1, 2, 7, 14] ?_; generalize hK : VS _ _ _ = KK; simp; (try subst hK)))
    | (refine VS.cond ?_; generalize hK1 : VS _ _ _ = KK1; generalize hK2 : VS _ _ _ = KK2; simp (maxSteps := 1000000) [hF, dRSp, dBool]; (try subst hK1); (try subst hK2))
  refine ⟨fun hlt => ?_, fun hge => ?_⟩
  · have hlt' : (i : Int) < S.shapes.length := by omega
    have hlt2 : i < S.shapes.length := by omega
    have next : ∀ (h0 : (decide (S.shapes[i].parent = (k : Int)) && decide (lastName S.shapes[i].names = n)) = false), ∀ j, j < i + 1 → ∀ hj : j < S.shapes.length, (decide (S.shapes[j].parent = (k : Int)) && decide (lastName S.shapes[j].names = n)) = false := fun h0 j hj hj' => by
      rcases Nat.lt_or_ge j i with h' | h'
      · exact hall j h' hj'
      · obtain rfl : j = i := by omega
        exact h0
    by_cases hp : S.shapes[i].parent = (k : Int)
    · have hpos : 0 < i := by
        rcases Nat.eq_zero_or_pos i with h0 | h0
        · subst h0; rw [hS.root hlt2] at hp; simp at hp
        · exact h0
      obtain ⟨p, hpi, a, h1, h2⟩ := hS.below i hlt2 hpos
      have hd := hS.deep i hlt2
      have hl0 : 0 < S.shapes[i].names.length := by rw [h2]; simp
      have hlast : S.shapes[i].names.length - 1 < S.shapes[i].names.length := by omega
      have hnth := dStrs_nth hlast
      have hln : S.shapes[i].names[S.shapes[i].names.length - 1] = lastName S.shapes[i].names := by
        simp only [h2, lastName_snoc]; simp
      rw [hln] at hnth
      have hw : IntKind.i64.wrap ((S.shapes[i].names.length : Int) - 1) = (S.shapes[i].names.length : Int) - 1 := IntWalk.i64_in _ (by omega)
      have ht : ((S.shapes[i].names.length : Int) - 1).toNat = S.shapes[i].names.length - 1 := by omega
      have hb : 0 ≤ (S.shapes[i].names.length : Int) - 1 := by omega
      have hb2 : (S.shapes[i].names.length : Int) - 1 < S.shapes[i].names.length := by omega
      have hb3 : (1 : Int) ≤ (S.shapes[i].names.length : Int) := by omega
      repeat first
        | refine VS.seq ?_
        | refine VS.skip ?_
        | refine VS.block ?_
        | (refine VS.drawn tabOk mixedOk (id := 4) [(10, 27)] [⟨0, 1, 131072, 5⟩, ⟨1, 131072, 262144, 5⟩, ⟨2, 262144, 524288, 5⟩, ⟨4, 524288, 1048576, 6⟩, ⟨0, 128, 2097152, 5⟩, ⟨24, 3145728, 4194304, 5⟩, ⟨32, 4194304, 8388608, 5⟩, ⟨64, 8388608, 16777216, 6⟩, ⟨0, 2, 33554432, 5⟩, ⟨384, 50331648, 67108864, 5⟩, ⟨512, 67108864, 134217728, 5⟩, ⟨1024, 134217729, 268435456, 5⟩, ⟨3072, 402653184, 536870912, 5⟩, ⟨5120, 671088640, 1073741824, 5⟩, ⟨9216, 1207959552, 2147483648, 6⟩, ⟨1024, 134217856, 4294967296, 5⟩, ⟨50176, 6576668672, 8589934592, 5⟩, ⟨66560, 8724152320, 17179869184, 5⟩, ⟨132096, 17314086912, 34359738368, 6⟩, ⟨1024, 134217729, 68719476736, 5⟩, ⟨525312, 68853694464, 137438953472, 5⟩, ⟨1049600, 137573171200, 274877906944, 5⟩, ⟨2098176, 275012124672, 549755813888, 6⟩, ⟨1024, 134217856, 1099511627776, 5⟩, ⟨12583936, 1649401659392, 2199023255552, 5⟩, ⟨16778240, 2199157473280, 4398046511104, 5⟩, ⟨33555456, 4398180728832, 8796093022208, 6⟩, ⟨67109888, 8796227239936, 17592186044416, 5⟩, ⟨134218752, 17592320262144, 35184372088832, 5⟩, ⟨268698624, 35218866044928, 70368744177664, 5⟩, ⟨536871936, 70368878395392, 140737488355328, 6⟩, ⟨1024, 134217732, 281474976710656, 5⟩, ⟨3221226496, 422212599283712, 562949953421312, 5⟩, ⟨4294968320, 562950087639040, 1125899906842624, 5⟩] (.take 0 (.take 1 (.take 2 (.take 3 (.take 4 (.take 5 (.take 6 (.take 7 (.take 8 (.take 9 (.take 10 (.take 11 (.take 12 (.take 13 (.take 14 (.take 15 (.take 16 (.take 17 (.take 18 (.take 19 (.take 20 (.take 21 (.take 22 (.take 23 (.take 24 (.take 25 (.take 26 (.take 27 (.take 28 (.take 29 (.take 30 (.take 31 (.take 32 (.take 33 (.done))))))))))))))))))))))))))))))))))) (.run [0, 1, 2, 3, 4, 5, 6, 7, 8, 9, 10, 11, 12, 13, 14, 15, 16, 17, 18, 19, 20, 21, 22, 23, 24, 25, 26, 27, 28, 29, 30, 31, 32, 33] (.done)) (by kernel_rfl) (by kernel_rfl) (by kernel_rfl) ?_; generalize hK : VS _ _ _ = KK; simp only [opsVc_run, opsVc_both, opsVc_chk, opsVc_done, opsVc_yes, pick_cons, pick_nil, List.getElem?_cons_zero, List.getElem?_cons_succ]; simp (maxSteps := 1000000) [hF, dRSp, dBool, dRShs_at hlt2, hlt', hlt2, hp, hw, ht, hb, hb2, hb3, hnth, hlast]; (try subst hK); try (refine VS.keep [0, 1, 2, 7, 50] ?_; generalize hK : VS _ _ _ = KK; simp; (try subst hK)))
        | (refine VS.cond ?_; generalize hK1 : VS _ _ _ = KK1; generalize hK2 : VS _ _ _ = KK2; simp (maxSteps := 1000000) [hF, dRSp, dBool, dRShs_at hlt2, hlt', hlt2, hp, hw, ht, hb, hb2, hb3, hnth, hlast]; (try subst hK1); (try subst hK2))
      refine ⟨fun he => ?_, fun he => ?_⟩
      · repeat first
          | refine VS.seq ?_
          | (refine VS.region tabOk (id := 5) [] (by kernel_rfl) ?_; generalize hK : VS _ _ _ = KK; simp (maxSteps := 1000000) [hF]; (try subst hK); try (refine VS.keep [6] ?_; generalize hK : VS _ _ _ = KK; simp; (try subst hK)))
        have hb : belowOf S.shapes k n = i := posBy_at hlt2 (by simp [hp, he]) hall
        try refine VS.ret ?_
        repeat first | refine blockN_ret ?_ | refine loopN_ret ?_
        refine endK.of [6] [0] [(0, [.d, .f 1])] (by simp [hF]) (by simp [covers, mpre]) ?_
        simp [hF, retK, dRSp, dBool, rbelow, hb]
      · repeat first
          | refine VS.skip ?_
          | refine VS.nil ?_
          | refine blockN_normal ?_
          | refine loopN_normal ?_
          | (refine VS.region tabOk (id := 3) [] (by kernel_rfl) ?_; generalize hK : VS _ _ _ = KK; simp (maxSteps := 1000000) [hF]; (try subst hK); try (refine VS.keep [0, 1, 2, 7] ?_; generalize hK : VS _ _ _ = KK; simp; (try subst hK)))
        refine nextK.of [0, 1, 2, 7] [0] (m - 1) (by omega) (by simp [hF]) ?_
        refine ⟨i + 1, by omega, next (by simp [he]), ?_⟩
        simp [dRSp, dBool]
        exact IntWalk.i64_in _ (by omega)
    · repeat first
        | refine VS.seq ?_
        | refine VS.skip ?_
        | refine VS.block ?_
        | refine VS.nil ?_
        | refine blockN_normal ?_
        | refine loopN_normal ?_
        | (refine VS.region tabOk (id := 3) [] (by kernel_rfl) ?_; generalize hK : VS _ _ _ = KK; simp (maxSteps := 1000000) [hF, dRSp, dBool, dRShs_at hlt2, hlt', hlt2, hp]; (try subst hK); try (refine VS.keep [0, 1, 2, 7] ?_; generalize hK : VS _ _ _ = KK; simp; (try subst hK)))
        | (refine VS.drawn tabOk mixedOk (id := 4) [(10, 27)] [⟨0, 1, 131072, 5⟩, ⟨1, 131072, 262144, 5⟩, ⟨2, 262144, 524288, 5⟩, ⟨4, 524288, 1048576, 6⟩, ⟨0, 128, 2097152, 5⟩, ⟨24, 3145728, 4194304, 5⟩, ⟨32, 4194304, 8388608, 5⟩, ⟨64, 8388608, 16777216, 6⟩, ⟨0, 2, 33554432, 5⟩, ⟨384, 50331648, 67108864, 5⟩, ⟨512, 67108864, 134217728, 5⟩, ⟨1024, 134217729, 268435456, 5⟩, ⟨3072, 402653184, 536870912, 5⟩, ⟨5120, 671088640, 1073741824, 5⟩, ⟨9216, 1207959552, 2147483648, 6⟩, ⟨1024, 134217856, 4294967296, 5⟩, ⟨50176, 6576668672, 8589934592, 5⟩, ⟨66560, 8724152320, 17179869184, 5⟩, ⟨132096, 17314086912, 34359738368, 6⟩, ⟨1024, 134217729, 68719476736, 5⟩, ⟨525312, 68853694464, 137438953472, 5⟩, ⟨1049600, 137573171200, 274877906944, 5⟩, ⟨2098176, 275012124672, 549755813888, 6⟩, ⟨1024, 134217856, 1099511627776, 5⟩, ⟨12583936, 1649401659392, 2199023255552, 5⟩, ⟨16778240, 2199157473280, 4398046511104, 5⟩, ⟨33555456, 4398180728832, 8796093022208, 6⟩, ⟨67109888, 8796227239936, 17592186044416, 5⟩, ⟨134218752, 17592320262144, 35184372088832, 5⟩, ⟨268698624, 35218866044928, 70368744177664, 5⟩, ⟨536871936, 70368878395392, 140737488355328, 6⟩, ⟨1024, 134217732, 281474976710656, 5⟩, ⟨3221226496, 422212599283712, 562949953421312, 5⟩, ⟨4294968320, 562950087639040, 1125899906842624, 5⟩] (.take 0 (.take 1 (.take 2 (.take 3 (.take 4 (.take 5 (.take 6 (.take 7 (.take 8 (.take 9 (.take 10 (.take 11 (.take 12 (.take 13 (.take 14 (.take 15 (.take 16 (.take 17 (.take 18 (.take 19 (.take 20 (.take 21 (.take 22 (.take 23 (.take 24 (.take 25 (.take 26 (.take 27 (.take 28 (.take 29 (.take 30 (.take 31 (.take 32 (.take 33 (.done))))))))))))))))))))))))))))))))))) (.run [0, 1, 2, 3, 4, 5, 6, 7, 8, 9, 10, 11, 12, 13, 14, 15, 16, 17, 18, 19, 20, 21, 22, 23, 24, 25, 26, 27, 28, 29, 30, 31, 32, 33] (.done)) (by kernel_rfl) (by kernel_rfl) (by kernel_rfl) ?_; generalize hK : VS _ _ _ = KK; simp only [opsVc_run, opsVc_both, opsVc_chk, opsVc_done, opsVc_yes, pick_cons, pick_nil, List.getElem?_cons_zero, List.getElem?_cons_succ]; simp (maxSteps := 1000000) [hF, dRSp, dBool, dRShs_at hlt2, hlt', hlt2, hp]; (try subst hK); try (refine VS.keep [0, 1, 2, 7, 50] ?_; generalize hK : VS _ _ _ = KK; simp; (try subst hK)))
        | (refine VS.cond ?_; generalize hK1 : VS _ _ _ = KK1; generalize hK2 : VS _ _ _ = KK2; simp (maxSteps := 1000000) [hF, dRSp, dBool, dRShs_at hlt2, hlt', hlt2, hp]; (try subst hK1); (try subst hK2))
      refine nextK.of [0, 1, 2, 7] [0] (m - 1) (by omega) (by simp [hF]) ?_
      refine ⟨i + 1, by omega, next (by simp [hp]), ?_⟩
      simp [dRSp, dBool]
      exact IntWalk.i64_in _ (by omega)
  · have hb : ¬ 0 ≤ belowOf S.shapes k n := by
      have h0 : belowOf S.shapes k n = -1 := posBy_none fun j hj => hall j (by omega) hj
      omega
    repeat first
      | refine VS.seq ?_
      | refine VS.exit ?_
      | (refine VS.region tabOk (id := 6) [] (by kernel_rfl) ?_; generalize hK : VS _ _ _ = KK; simp (maxSteps := 1000000) [hF, dRSp, dBool]; (try subst hK); try (refine VS.keep [0, 1, 2, 57] ?_; generalize hK : VS _ _ _ = KK; simp; (try subst hK)))
      | (refine VS.cond ?_; generalize hK1 : VS _ _ _ = KK1; generalize hK2 : VS _ _ _ = KK2; simp (maxSteps := 1000000) [hF, dRSp, dBool]; (try subst hK1); (try subst hK2))
    refine ⟨fun h2 => ?_, fun h2 => ?_⟩
    · have h2' : 200 ≤ S.shapes.length := by omega
      repeat first
        | refine VS.seq ?_
        | (refine VS.region tabOk (id := 7) [] (by kernel_rfl) ?_; generalize hK : VS _ _ _ = KK; simp (maxSteps := 1000000) [hF]; (try subst hK); try (refine VS.keep [6] ?_; generalize hK : VS _ _ _ = KK; simp; (try subst hK)))
      try refine VS.ret ?_
      repeat first | refine blockN_ret ?_ | refine loopN_ret ?_
      refine endK.of [6] [0] [(0, [.d, .f 1])] (by simp [hF]) (by simp [covers, mpre]) ?_
      simp [hF, retK, dRSp, dBool, rbelow, hb, h2']
    · have h2' : ¬ 200 ≤ S.shapes.length := by omega
      have hk' : (k : Int) < S.shapes.length := by omega
      have hd := hS.deep k hk
      have hpush := dRShs_push S.shapes ⟨(k : Int), S.shapes[k].names ++ [n]⟩
      have hw : IntKind.i64.wrap (S.shapes.length : Int) = S.shapes.length := IntWalk.i64_in _ (by omega)
      refine VS.lift 0 [.d, .f 1] (by simp (maxSteps := 1000000) [hF]) (by simp (maxSteps := 1000000) [hF]) (by simp [isNode]) (by simp (maxSteps := 1000000) [hF]) ?_
      generalize hK : VS _ _ _ = KK; simp [hF, St.lift, AV.lift, liftPl, stripP, nodeAV]; (try subst hK)
      repeat' first
        | refine VS.seq ?_
        | refine VS.skip ?_
        | refine ⟨⟨by omega, by omega⟩, ?_⟩
        | (refine VS.drawnE tabOk mixedOk (id := 8) 32768 [] [⟨0, 1, 288230376151711744, 5⟩, ⟨0, 1, 576460752303423488, 5⟩, ⟨2, 576460752303423488, 1152921504606846976, 5⟩, ⟨4, 1152921504606846976, 2305843009213693952, 5⟩, ⟨8, 2305843009213693952, 4611686018427387904, 6⟩, ⟨0, 2, 9223372036854775808, 5⟩, ⟨0, 0, 18446744073709551616, 4⟩, ⟨0, 1, 36893488147419103232, 5⟩, ⟨128, 36893488147419103232, 73786976294838206464, 5⟩, ⟨256, 73786976294838206464, 147573952589676412928, 5⟩, ⟨512, 147573952589676412928, 295147905179352825856, 6⟩, ⟨0, 2, 590295810358705651712, 5⟩, ⟨3072, 885443715538058477568, 1180591620717411303424, 5⟩, ⟨4096, 1180591620717411303424, 2361183241434822606848, 5⟩, ⟨8192, 2361183241434822606848, 4722366482869645213696, 6⟩, ⟨16448, 4740813226943354765312, 9444732965739290427392, 0⟩, ⟨0, 4, 18889465931478580854784, 5⟩, ⟨65536, 18889465931478580854784, 37778931862957161709568, 4⟩, ⟨163840, 47223664828696452136960, 75557863725914323419136, 0⟩, ⟨262176, 75567087097951178194944, 151115727451828646838272, 5⟩, ⟨524288, 151115727451828646838272, 302231454903657293676544, 4⟩, ⟨1310736, 302236066589675721064448, 604462909807314587353088, 0⟩, ⟨4194303, 288230376151711744, 1208925819614629174706176, 5⟩, ⟨8388607, 1208925819614629174706176, 2417851639229258349412352, 5⟩, ⟨12582911, 3022314549036572936765440, 0, 0⟩] (.take 0 (.take 1 (.take 2 (.take 3 (.take 5 (.take 7 (.take 8 (.take 9 (.take 10 (.take 11 (.take 12 (.take 13 (.take 14 (.take 16 (.fork (.alt 4 (.fork (.alt 6 (.fork (.alt 15 (.fork (.alt 17 (.fork (.alt 18 (.take 19 (.fork (.alt 20 (.fork (.alt 21 (.take 22 (.take 23 (.fork (.alt 24 (.done) (.nil))))) (.nil))) (.nil)))) (.nil))) (.nil))) (.alt 17 (.fork (.alt 15 (.fork (.alt 18 (.take 19 (.fork (.alt 20 (.fork (.alt 21 (.take 22 (.take 23 (.fork (.alt 24 (.done) (.nil))))) (.nil))) (.nil)))) (.nil))) (.nil))) (.nil)))) (.alt 17 (.fork (.alt 6 (.fork (.alt 15 (.fork (.alt 18 (.take 19 (.fork (.alt 20 (.fork (.alt 21 (.take 22 (.take 23 (.fork (.alt 24 (.done) (.nil))))) (.nil))) (.nil)))) (.nil))) (.nil))) (.nil))) (.nil)))) (.alt 6 (.fork (.alt 4 (.fork (.alt 15 (.fork (.alt 17 (.fork (.alt 18 (.take 19 (.fork (.alt 20 (.fork (.alt 21 (.take 22 (.take 23 (.fork (.alt 24 (.done) (.nil))))) (.nil))) (.nil)))) (.nil))) (.nil))) (.alt 17 (.fork (.alt 15 (.fork (.alt 18 (.take 19 (.fork (.alt 20 (.fork (.alt 21 (.take 22 (.take 23 (.fork (.alt 24 (.done) (.nil))))) (.nil))) (.nil)))) (.nil))) (.nil))) (.nil)))) (.alt 15 (.fork (.alt 4 (.fork (.alt 17 (.fork (.alt 18 (.take 19 (.fork (.alt 20 (.fork (.alt 21 (.take 22 (.take 23 (.fork (.alt 24 (.done) (.nil))))) (.nil))) (.nil)))) (.nil))) (.nil))) (.alt 17 (.fork (.alt 4 (.fork (.alt 18 (.take 19 (.fork (.alt 20 (.fork (.alt 21 (.take 22 (.take 23 (.fork (.alt 24 (.done) (.nil))))) (.nil))) (.nil)))) (.nil))) (.alt 18 (.take 4 (.take 19 (.fork (.alt 20 (.fork (.alt 21 (.take 22 (.take 23 (.fork (.alt 24 (.done) (.nil))))) (.nil))) (.nil))))) (.nil)))) (.nil)))) (.alt 17 (.fork (.alt 4 (.fork (.alt 15 (.fork (.alt 18 (.take 19 (.fork (.alt 20 (.fork (.alt 21 (.take 22 (.take 23 (.fork (.alt 24 (.done) (.nil))))) (.nil))) (.nil)))) (.nil))) (.nil))) (.alt 15 (.fork (.alt 4 (.fork (.alt 18 (.take 19 (.fork (.alt 20 (.fork (.alt 21 (.take 22 (.take 23 (.fork (.alt 24 (.done) (.nil))))) (.nil))) (.nil)))) (.nil))) (.alt 18 (.take 4 (.take 19 (.fork (.alt 20 (.fork (.alt 21 (.take 22 (.take 23 (.fork (.alt 24 (.done) (.nil))))) (.nil))) (.nil))))) (.nil)))) (.nil)))) (.nil))))) (.alt 17 (.fork (.alt 4 (.fork (.alt 6 (.fork (.alt 15 (.fork (.alt 18 (.take 19 (.fork (.alt 20 (.fork (.alt 21 (.take 22 (.take 23 (.fork (.alt 24 (.done) (.nil))))) (.nil))) (.nil)))) (.nil))) (.nil))) (.nil))) (.alt 6 (.fork (.alt 4 (.fork (.alt 15 (.fork (.alt 18 (.take 19 (.fork (.alt 20 (.fork (.alt 21 (.take 22 (.take 23 (.fork (.alt 24 (.done) (.nil))))) (.nil))) (.nil)))) (.nil))) (.nil))) (.alt 15 (.fork (.alt 4 (.fork (.alt 18 (.take 19 (.fork (.alt 20 (.fork (.alt 21 (.take 22 (.take 23 (.fork (.alt 24 (.done) (.nil))))) (.nil))) (.nil)))) (.nil))) (.alt 18 (.take 4 (.take 19 (.fork (.alt 20 (.fork (.alt 21 (.take 22 (.take 23 (.fork (.alt 24 (.done) (.nil))))) (.nil))) (.nil))))) (.nil)))) (.nil)))) (.nil)))) (.nil))))))))))))))))))) (.run [0, 1, 2, 3, 5, 7, 8, 9, 10, 11, 12, 13, 14, 16] (.both (.run [4] (.both (.run [6] (.both (.chk 15 (.run [15, 17, 18, 19, 20, 21, 22, 23, 24] (.done))) (.run [17] (.chk 15 (.run [15, 18, 19, 20, 21, 22, 23, 24] (.done)))))) (.run [17, 6] (.chk 15 (.run [15, 18, 19, 20, 21, 22, 23, 24] (.done)))))) (.both (.run [6] (.both (.run [4] (.both (.chk 15 (.run [15, 17, 18, 19, 20, 21, 22, 23, 24] (.done))) (.run [17] (.chk 15 (.run [15, 18, 19, 20, 21, 22, 23, 24] (.done)))))) (.both (.chk 15 (.run [15] (.both (.run [4, 17, 18, 19, 20, 21, 22, 23, 24] (.done)) (.run [17] (.both (.run [4, 18, 19, 20, 21, 22, 23, 24] (.done)) (.run [18, 4, 19, 20, 21, 22, 23, 24] (.done))))))) (.run [17] (.both (.run [4] (.chk 15 (.run [15, 18, 19, 20, 21, 22, 23, 24] (.done)))) (.chk 15 (.run [15] (.both (.run [4, 18, 19, 20, 21, 22, 23, 24] (.done)) (.run [18, 4, 19, 20, 21, 22, 23, 24] (.done)))))))))) (.run [17] (.both (.run [4, 6] (.chk 15 (.run [15, 18, 19, 20, 21, 22, 23, 24] (.done)))) (.run [6] (.both (.run [4] (.chk 15 (.run [15, 18, 19, 20, 21, 22, 23, 24] (.done)))) (.chk 15 (.run [15] (.both (.run [4, 18, 19, 20, 21, 22, 23, 24] (.done)) (.run [18, 4, 19, 20, 21, 22, 23, 24] (.done)))))))))))) (by kernel_rfl) (by kernel_rfl) (by kernel_rfl) ?_; generalize hK : VS _ _ _ = KK; simp only [opsVc_run, opsVc_both, opsVc_chk, opsVc_done, opsVc_yes, pick_cons, pick_nil, List.getElem?_cons_zero, List.getElem?_cons_succ]; simp (maxSteps := 1000000) [hF, dRSp, dBool, dRShs_at hk, hk, hk', hpush, dStrs_nil]; (try subst hK); try (refine VS.keep [0] ?_; generalize hK : VS _ _ _ = KK; simp; (try subst hK)))
        | (refine VS.region tabOk (id := 9) [] (by kernel_rfl) ?_; generalize hK : VS _ _ _ = KK; simp (maxSteps := 1000000) [hF, dRSp, dBool, dRShs_at hk, hk, hk', hpush, dStrs_nil]; (try subst hK); try (refine VS.keep [6] ?_; generalize hK : VS _ _ _ = KK; simp; (try subst hK)))
        | refine And.intro ?_ ?_
      all_goals try refine VS.ret ?_
      all_goals repeat first | refine blockN_ret ?_ | refine loopN_ret ?_
      all_goals refine endK.of [6] [0] [(0, [.d, .f 1])] (by simp [hF]) (by simp [covers, mpre]) ?_
      all_goals simp [hF, retK, dRSp, dBool, rbelow, hb, h2', hk, hw]

abbrev putK : List (Nat × Path) := [(0, [.d, .f 1]), (0, [.d, .f 2, .i 0, .f 1]), (0, [.d, .f 2, .i 0, .f 2])]

/- (*cabochon/cabochonref20.Space).put -/
theorem put_ok (S : Sp) (hS : ShOk S.shapes) (j : Nat) (hj : j < S.objs.length) {N : Nat} (ho : ObOk S.shapes N S.objs[j]) (hN : N < 1000000) (n : ByteArray) (w : Int) : Meets Try.prog 47 [dRSp S] (.cons (.ptr 0 [.d]) (.cons (.ptr 0 [.d, .f 2, .i j]) (.cons (.val (.string n)) (.cons (avInt w) .nil))))
    fun av X κ => av = .tup .nil ∧ X = [dRSp (addOf S j S.objs[j] n w)] ∧ κ = putK := by
  refine Meets.of_vs tabOk Try.func47 (body := ?_) ?_ (by kernel_rfl) Try.ntmps47 (rs := []) (by kernel_rfl) rfl (by simp [AV.len]) (by simp only [envOf]; exact rfl) ?_
  rotate_left
  · rfl
  intro w0 I0 F0 hF
  have hjl : j < (dRObs S.objs).len := by simpa using hj
  have hnl := ho.names_len
  have hwl := ho.1
  have hns := hS.ns
  have e2 := (dRObs_set S.objs j (addOb S.shapes S.objs[j] n w)).symm
  repeat first
    | refine VS.seq ?_
    | (refine VS.region tabOk (id := 0) [] (by kernel_rfl) ?_; generalize hK : VS _ _ _ = KK; simp (maxSteps := 1000000) [hF, dRSp, dBool, dRObs_at hj, hj]; (try subst hK); try (refine VS.keep [0, 1, 2, 3, 12] ?_; generalize hK : VS _ _ _ = KK; simp; (try subst hK)))
    | (refine VS.cond ?_; generalize hK1 : VS _ _ _ = KK1; generalize hK2 : VS _ _ _ = KK2; simp (maxSteps := 1000000) [hF, dRSp, dBool, dRObs_at hj, hj]; (try subst hK1); (try subst hK2))
  refine ⟨fun hc => ?_, fun hc => ?_⟩
  · have hne : ¬ S.objs[j].shape = -1 := by omega
    obtain ⟨k, hk, h1, h2⟩ := ho.2.2.resolve_left hne
    repeat first
      | refine VS.seq ?_
      | (refine VS.region tabOk (id := 1) [] (by kernel_rfl) ?_; generalize hK : VS _ _ _ = KK; simp (maxSteps := 1000000) [hF, dRSp, dBool, dRObs_at hj, hj, T.nth_setN_same _ hjl]; (try subst hK); try (refine VS.keep [0, 1, 2, 3, 18] ?_; generalize hK : VS _ _ _ = KK; simp; (try subst hK)))
      | (refine VS.cond ?_; generalize hK1 : VS _ _ _ = KK1; generalize hK2 : VS _ _ _ = KK2; simp (maxSteps := 1000000) [hF, dRSp, dBool, dRObs_at hj, hj, T.nth_setN_same _ hjl]; (try subst hK1); (try subst hK2))
    refine ⟨fun h3 => ?_, fun h3 => ?_⟩
    · have h3' : 12 ≤ S.objs[j].names.length := by omega
      repeat' first
        | refine VS.seq ?_
        | refine VS.nil ?_
        | refine ⟨⟨by omega, by omega⟩, ?_⟩
        | (refine VS.region tabOk (id := 2) [] (by kernel_rfl) ?_; generalize hK : VS _ _ _ = KK; simp (maxSteps := 1000000) [hF, dRSp, dBool, dRObs_at hj, hj, T.nth_setN_same _ hjl]; (try subst hK); try (refine VS.keep [1, 2, 3] ?_; generalize hK : VS _ _ _ = KK; simp; (try subst hK)))
        | (refine VS.region tabOk (id := 4) [] (by kernel_rfl) ?_; generalize hK : VS _ _ _ = KK; simp (maxSteps := 1000000) [hF, dRSp, dBool, dRObs_at hj, hj, T.nth_setN_same _ hjl]; (try subst hK); try (refine VS.keep [1, 3] ?_; generalize hK : VS _ _ _ = KK; simp; (try subst hK)))
        | (refine VS.region tabOk (id := 5) [] (by kernel_rfl) ?_; generalize hK : VS _ _ _ = KK; simp (maxSteps := 1000000) [hF, dRSp, dBool, dRObs_at hj, hj, T.nth_setN_same _ hjl]; (try subst hK); try (refine VS.keep [] ?_; generalize hK : VS _ _ _ = KK; simp; (try subst hK)))
      try refine VS.ret ?_
      repeat first | refine blockN_ret ?_ | refine loopN_ret ?_
      refine endK.of [] [0] putK (by simp [hF]) (by simp [covers, mpre]) ?_
      simp [hF, retK, dRSp, dBool, addOf]
      rw [e2]
      simp [addOb, stepSh, h3']
    · have h3' : ¬ 12 ≤ S.objs[j].names.length := by omega
      repeat first
        | (refine VS.region tabOk (id := 3) [] (by kernel_rfl) ?_; generalize hK : VS _ _ _ = KK; simp (maxSteps := 1000000) [hF, dRSp, dBool, dRObs_at hj, hj, T.nth_setN_same _ hjl]; (try subst hK); try (refine VS.keep [1, 2, 3] ?_; generalize hK : VS _ _ _ = KK; simp; (try subst hK)))
      simp only [h1, tick_eq]
      refine (rbelow_ok S hS k hk n).call [(0, [])] (by simp) (by simp (maxSteps := 1000000) [hF, dRSp, dBool, dRObs_at hj, hj]) (by simp (maxSteps := 1000000) [hF, dRSp, dBool, dRObs_at hj, hj]) (by simp (maxSteps := 1000000) [hF, dRSp, dBool, dRObs_at hj, hj]) ?_
      rintro av X κ ⟨rfl, rfl, rfl⟩
      generalize hK : VS _ _ _ = KK; simp (maxSteps := 1000000) [hF, dRSp, dBool, dRObs_at hj, hj]; (try subst hK)
      have hs : stepSh S.shapes S.objs[j] n = rbelow S.shapes k n := by
        have hkk : ¬ (k : Int) = -1 := by omega
        simp [stepSh, rbelow, h1, h2, hkk, hk]
        rw [h2] at h3'
        simp [h3']
      repeat' first
        | refine VS.seq ?_
        | refine VS.nil ?_
        | refine ⟨⟨by omega, by omega⟩, ?_⟩
        | (refine VS.region tabOk (id := 4) [] (by kernel_rfl) ?_; generalize hK : VS _ _ _ = KK; simp (maxSteps := 1000000) [hF, dRSp, dBool, dRObs_at hj, hj, T.nth_setN_same _ hjl]; (try subst hK); try (refine VS.keep [1, 3] ?_; generalize hK : VS _ _ _ = KK; simp; (try subst hK)))
        | (refine VS.region tabOk (id := 5) [] (by kernel_rfl) ?_; generalize hK : VS _ _ _ = KK; simp (maxSteps := 1000000) [hF, dRSp, dBool, dRObs_at hj, hj, T.nth_setN_same _ hjl]; (try subst hK); try (refine VS.keep [] ?_; generalize hK : VS _ _ _ = KK; simp; (try subst hK)))
      try refine VS.ret ?_
      repeat first | refine blockN_ret ?_ | refine loopN_ret ?_
      refine endK.of [] [0] putK (by simp [hF]) (by simp [covers, mpre]) ?_
      simp [hF, retK, dRSp, dBool, addOf]
      rw [e2]
      simp [addOb, hs]
  · have hs1 : S.objs[j].shape = -1 := by
      rcases ho.2.2 with h | ⟨k, hk, h1, _⟩
      · exact h
      · omega
    repeat' first
      | refine VS.seq ?_
      | refine VS.skip ?_
      | refine VS.nil ?_
      | refine ⟨⟨by omega, by omega⟩, ?_⟩
      | (refine VS.region tabOk (id := 4) [] (by kernel_rfl) ?_; generalize hK : VS _ _ _ = KK; simp (maxSteps := 1000000) [hF, dRSp, dBool, dRObs_at hj, hj, T.nth_setN_same _ hjl]; (try subst hK); try (refine VS.keep [1, 3] ?_; generalize hK : VS _ _ _ = KK; simp; (try subst hK)))
      | (refine VS.region tabOk (id := 5) [] (by kernel_rfl) ?_; generalize hK : VS _ _ _ = KK; simp (maxSteps := 1000000) [hF, dRSp, dBool, dRObs_at hj, hj, T.nth_setN_same _ hjl]; (try subst hK); try (refine VS.keep [] ?_; generalize hK : VS _ _ _ = KK; simp; (try subst hK)))
    try refine VS.ret ?_
    repeat first | refine blockN_ret ?_ | refine loopN_ret ?_
    refine endK.of [] [0] putK (by simp [hF]) (by simp [covers, mpre]) ?_
    simp [hF, retK, dRSp, dBool, addOf]
    rw [e2]
    simp [addOb, stepSh, hs1]

/- (*cabochon/cabochonref20.Space).Set -/
theorem rset_ok (S : Sp) (h0 : 0 < S.shapes.length) {N : Nat} (hS : WF S N) (hN : N < 1000000) (o : Int) (n : ByteArray) (w : Int) : Meets Try.prog 18 [dRSp S] (.cons (.ptr 0 [.d]) (.cons (avInt o) (.cons (.val (.string n)) (.cons (avInt w) .nil))))
    fun av X κ => av = avInt (setOf S o n w).2 ∧ X = [dRSp (setOf S o n w).1] ∧ κ = [(0, [.d])] := by
  refine Meets.of_vs tabOk Try.func18 (body := ?_) ?_ (by kernel_rfl) Try.ntmps18 (rs := [.tmp 8]) (by kernel_rfl) rfl (by simp [AV.len]) (by simp only [envOf]; exact rfl) ?_
  rotate_left
  · rfl
  intro w0 I0 F0 hF
  repeat first
    | refine VS.seq ?_
    | (refine VS.region tabOk (id := 0) [] (by kernel_rfl) ?_; generalize hK : VS _ _ _ = KK; simp (maxSteps := 1000000) [hF]; (try subst hK); try (refine VS.keep [0, 1, 2, 3] ?_; generalize hK : VS _ _ _ = KK; simp; (try subst hK)))
    | (refine VS.region tabOk (id := 1) [] (by kernel_rfl) ?_; generalize hK : VS _ _ _ = KK; simp (maxSteps := 1000000) [hF]; (try subst hK); try (refine VS.keep [0, 1, 2, 3, 14] ?_; generalize hK : VS _ _ _ = KK; simp; (try subst hK)))
  refine (object_ok S h0 o).call [(0, [])] (by simp) (by simp (maxSteps := 1000000) [hF, dRSp, dBool]) (by simp (maxSteps := 1000000) [hF, dRSp, dBool]) (by simp (maxSteps := 1000000) [hF, dRSp, dBool]) ?_
  rintro av X κ ⟨rfl, rfl, rfl⟩
  generalize hK : VS _ _ _ = KK; simp (maxSteps := 1000000) [hF, dRSp, dBool]; (try subst hK)
  repeat first
    | (refine VS.cond ?_; generalize hK1 : VS _ _ _ = KK1; generalize hK2 : VS _ _ _ = KK2; simp (maxSteps := 1000000) [hF]; (try subst hK1); (try subst hK2))
  refine ⟨fun h => ?_, fun h => ?_⟩
  · repeat first
      | refine VS.seq ?_
      | (refine VS.region tabOk (id := 2) [] (by kernel_rfl) ?_; generalize hK : VS _ _ _ = KK; simp (maxSteps := 1000000) [hF]; (try subst hK); try (refine VS.keep [8] ?_; generalize hK : VS _ _ _ = KK; simp; (try subst hK)))
    have he : askOf S o n true = 1 := by simp [askOf, h]
    try refine VS.ret ?_
    repeat first | refine blockN_ret ?_ | refine loopN_ret ?_
    refine endK.of [8] [0] [(0, [.d])] (by simp [hF]) (by simp [covers, mpre]) ?_
    simp [hF, retK, dRSp, dBool, setOf, he]
  · obtain ⟨j, rfl, hj, _⟩ := hasB_true h
    have ho := hS.ob _ (List.getElem_mem hj)
    have hnl := ho.names_len
    have hwl := ho.1
    repeat first
      | refine VS.seq ?_
      | refine VS.skip ?_
      | (refine VS.region tabOk (id := 3) [] (by kernel_rfl) ?_; generalize hK : VS _ _ _ = KK; simp (maxSteps := 1000000) [hF]; (try subst hK); try (refine VS.keep [0, 1, 2, 3, 17] ?_; generalize hK : VS _ _ _ = KK; simp; (try subst hK)))
    refine (rnamed_ok n).call [] (by simp) (by simp (maxSteps := 1000000) [hF, dRSp, dBool]) (by simp (maxSteps := 1000000) [hF, dRSp, dBool]) (by simp (maxSteps := 1000000) [hF, dRSp, dBool]) ?_
    rintro av X κ ⟨rfl, rfl, rfl⟩
    generalize hK : VS _ _ _ = KK; simp (maxSteps := 1000000) [hF, dRSp, dBool]; (try subst hK)
    repeat first
      | (refine VS.cond ?_; generalize hK1 : VS _ _ _ = KK1; generalize hK2 : VS _ _ _ = KK2; simp (maxSteps := 1000000) [hF]; (try subst hK1); (try subst hK2))
    refine ⟨fun hn => ?_, fun hn => ?_⟩
    · repeat first
        | refine VS.seq ?_
        | (refine VS.region tabOk (id := 4) [] (by kernel_rfl) ?_; generalize hK : VS _ _ _ = KK; simp (maxSteps := 1000000) [hF]; (try subst hK); try (refine VS.keep [8] ?_; generalize hK : VS _ _ _ = KK; simp; (try subst hK)))
      have hn' : n = noName ∨ 40 < n.size := by simp only [namedB, decide_eq_false_iff_not, Classical.not_not] at hn; exact hn
      have he : askOf S j n true = 6 := by simp [askOf, h, hn']
      try refine VS.ret ?_
      repeat first | refine blockN_ret ?_ | refine loopN_ret ?_
      refine endK.of [8] [0] [(0, [.d])] (by simp [hF]) (by simp [covers, mpre]) ?_
      simp [hF, retK, dRSp, dBool, setOf, he]
    · have hn' : ¬ (n = noName ∨ 40 < n.size) := by simp only [namedB, decide_eq_true_eq] at hn; exact hn
      repeat first
        | refine VS.seq ?_
        | refine VS.skip ?_
        | (refine VS.region tabOk (id := 5) [] (by kernel_rfl) ?_; generalize hK : VS _ _ _ = KK; simp (maxSteps := 1000000) [hF, dRSp, dBool, dRObs_at hj, hj]; (try subst hK); try (refine VS.keep [0, 2, 3, 9] ?_; generalize hK : VS _ _ _ = KK; simp; (try subst hK)))
        | (refine VS.region tabOk (id := 6) [] (by kernel_rfl) ?_; generalize hK : VS _ _ _ = KK; simp (maxSteps := 1000000) [hF, dRSp, dBool, dRObs_at hj, hj]; (try subst hK); try (refine VS.keep [0, 2, 3, 9, 27] ?_; generalize hK : VS _ _ _ = KK; simp; (try subst hK)))
        | (refine VS.cond ?_; generalize hK1 : VS _ _ _ = KK1; generalize hK2 : VS _ _ _ = KK2; simp (maxSteps := 1000000) [hF, dRSp, dBool, dRObs_at hj, hj]; (try subst hK1); (try subst hK2))
      refine ⟨fun hf => ?_, fun hf => ?_⟩
      · repeat first
          | refine VS.seq ?_
          | (refine VS.region tabOk (id := 7) [] (by kernel_rfl) ?_; generalize hK : VS _ _ _ = KK; simp (maxSteps := 1000000) [hF]; (try subst hK); try (refine VS.keep [8] ?_; generalize hK : VS _ _ _ = KK; simp; (try subst hK)))
        have he : askOf S j n true = 13 := by simp [askOf, h, hn', obAt_eq hj, hf]
        try refine VS.ret ?_
        repeat first | refine blockN_ret ?_ | refine loopN_ret ?_
        refine endK.of [8] [0] [(0, [.d])] (by simp [hF]) (by simp [covers, mpre]) ?_
        simp [hF, retK, dRSp, dBool, setOf, he]
      · have he : askOf S j n true = 0 := by simp [askOf, h, hn', obAt_eq hj, hf]
        repeat first
          | refine VS.seq ?_
          | refine VS.skip ?_
          | (refine VS.region tabOk (id := 8) [] (by kernel_rfl) ?_; generalize hK : VS _ _ _ = KK; simp (maxSteps := 1000000) [hF, dRSp, dBool, dRObs_at hj, hj]; (try subst hK); try (refine VS.keep [0, 2, 3, 9, 10] ?_; generalize hK : VS _ _ _ = KK; simp; (try subst hK)))
        refine (place_ok true false S.objs[j].names n (by omega)).call [(0, [.d, .f 2, .i j, .f 1])] (by simp) (by simp (maxSteps := 1000000) [hF, dRSp, dBool, dRObs_at hj, hj, setN_of (dRObs_at hj)]) (by simp (maxSteps := 1000000) [hF, dRSp, dBool, dRObs_at hj, hj, setN_of (dRObs_at hj)]) (by simp (maxSteps := 1000000) [hF, dRSp, dBool, dRObs_at hj, hj, setN_of (dRObs_at hj)]) ?_
        rintro av X κ ⟨rfl, rfl, rfl⟩
        generalize hK : VS _ _ _ = KK; simp (maxSteps := 1000000) [hF, dRSp, dBool, dRObs_at hj, hj, setN_of (dRObs_at hj)]; (try subst hK)
        repeat first
          | refine VS.seq ?_
          | (refine VS.region tabOk (id := 9) [] (by kernel_rfl) ?_; generalize hK : VS _ _ _ = KK; simp (maxSteps := 1000000) [hF]; (try subst hK); try (refine VS.keep [0, 2, 3, 9, 10, 35] ?_; generalize hK : VS _ _ _ = KK; simp; (try subst hK)))
          | (refine VS.cond ?_; generalize hK1 : VS _ _ _ = KK1; generalize hK2 : VS _ _ _ = KK2; simp (maxSteps := 1000000) [hF]; (try subst hK1); (try subst hK2))
        refine ⟨fun hp => ?_, fun hp => ?_⟩
        · have hlt : (posIn n S.objs[j].names).toNat < S.objs[j].words.length := by
            rcases posBy_cases (fun x => decide (x = n)) S.objs[j].names with ⟨h1, _⟩ | ⟨i, hi, h1, _⟩
            · simp only [posIn] at hp; omega
            · simp only [posIn, h1]; omega
          have hlt' : posIn n S.objs[j].names < S.objs[j].words.length := by omega
          have hnth := dInts_nth hlt
          have e1 := dRObs_set S.objs j { S.objs[j] with words := S.objs[j].words.set (posIn n S.objs[j].names).toNat w }
          repeat first
            | refine VS.seq ?_
            | (refine VS.region tabOk (id := 10) [] (by kernel_rfl) ?_; generalize hK : VS _ _ _ = KK; simp (maxSteps := 1000000) [hF, dRSp, dBool, dRObs_at hj, hj, hp, hlt, hlt', hnth]; (try subst hK); try (refine VS.keep [] ?_; generalize hK : VS _ _ _ = KK; simp; (try subst hK)))
            | (refine VS.region tabOk (id := 11) [] (by kernel_rfl) ?_; generalize hK : VS _ _ _ = KK; simp (maxSteps := 1000000) [hF, dRSp, dBool, dRObs_at hj, hj, hp, hlt, hlt', hnth]; (try subst hK); try (refine VS.keep [8] ?_; generalize hK : VS _ _ _ = KK; simp; (try subst hK)))
          try refine VS.ret ?_
          repeat first | refine blockN_ret ?_ | refine loopN_ret ?_
          refine endK.of [8] [0] [(0, [.d])] (by simp [hF]) (by simp [covers, mpre]) ?_
          simp [hF, retK, dRSp, dBool, setOf, he, obAt_eq hj, hp, setOb, e1]
        · have hp' : ¬ 0 ≤ posIn n S.objs[j].names := by omega
          repeat first
            | refine VS.seq ?_
            | refine VS.skip ?_
            | (refine VS.region tabOk (id := 12) [] (by kernel_rfl) ?_; generalize hK : VS _ _ _ = KK; simp (maxSteps := 1000000) [hF, dRSp, dBool, dRObs_at hj, hj]; (try subst hK); try (refine VS.keep [] ?_; generalize hK : VS _ _ _ = KK; simp; (try subst hK)))
          refine (put_ok S hS.sh j hj ho hN n w).call [(0, [])] (by simp) (by simp (maxSteps := 1000000) [hF, dRSp, dBool, addOf]) (by simp (maxSteps := 1000000) [hF, dRSp, dBool, addOf]) (by simp (maxSteps := 1000000) [hF, dRSp, dBool, addOf]) ?_
          rintro av X κ ⟨rfl, rfl, rfl⟩
          generalize hK : VS _ _ _ = KK; simp (maxSteps := 1000000) [hF, dRSp, dBool, addOf]; (try subst hK)
          repeat first
            | refine VS.seq ?_
            | (refine VS.region tabOk (id := 13) [] (by kernel_rfl) ?_; generalize hK : VS _ _ _ = KK; simp (maxSteps := 1000000) [hF]; (try subst hK); try (refine VS.keep [8] ?_; generalize hK : VS _ _ _ = KK; simp; (try subst hK)))
          try refine VS.ret ?_
          repeat first | refine blockN_ret ?_ | refine loopN_ret ?_
          refine endK.of [8] [0] [(0, [.d])] (by simp [hF]) (by simp [covers, mpre]) ?_
          simp [hF, retK, dRSp, dBool, setOf, he, obAt_eq hj, hp', addOf]
end Go.Proofs.Ythcndkpkkaphoaa

/- The reference's smaller methods. -/
namespace Go.Proofs.Ythcndkpkkaphoaa
set_option linter.all false
open Go.Vc Go.Proofs
set_option linter.unusedSimpArgs false
set_option maxRecDepth 100000
set_option maxHeartbeats 4000000
attribute [local irreducible] CallW EqK

/-- What is asked ahead of a deed. -/
theorem ask_no {S : Sp} {o : Int} (h : hasB S o = false) (n : ByteArray) (c : Bool) : askOf S o n c = 1 := by simp [askOf, h]
theorem ask_name {S : Sp} {o : Int} (h : hasB S o = true) {n : ByteArray} (hn : namedB n = false) (c : Bool) : askOf S o n c = 6 := by
  have hn' : n = noName ∨ 40 < n.size := by simp only [namedB, decide_eq_false_iff_not, Classical.not_not] at hn; exact hn
  simp [askOf, h, hn']
theorem ask_get {S : Sp} {o : Int} (h : hasB S o = true) {n : ByteArray} (hn : namedB n = true) : askOf S o n false = 0 := by
  have hn' : ¬ (n = noName ∨ 40 < n.size) := by simp only [namedB, decide_eq_true_eq] at hn; exact hn
  simp [askOf, h, hn']
theorem ask_set {S : Sp} {j : Nat} (hj : j < S.objs.length) (h : hasB S j = true) {n : ByteArray} (hn : namedB n = true) : askOf S j n true = if S.objs[j].frozen = true then 13 else 0 := by
  have hn' : ¬ (n = noName ∨ 40 < n.size) := by simp only [namedB, decide_eq_true_eq] at hn; exact hn
  simp [askOf, h, hn', obAt_eq hj]
theorem namedB_slot {n : ByteArray} : (n = noName ∨ 40 < n.size) ↔ namedB n = false := by
  simp only [namedB, decide_eq_false_iff_not, Classical.not_not]
theorem posIn_words {l : List ByteArray} {m : Nat} (h : m = l.length) {n : ByteArray} (hp : 0 ≤ posIn n l) : (posIn n l).toNat < m ∧ posIn n l < (m : Int) := by
  rcases posBy_cases (fun x => decide (x = n)) l with ⟨h1, _⟩ | ⟨i, hi, h1, _⟩
  · simp only [posIn] at hp; omega
  · simp only [posIn, h1]; omega

/- (*cabochon/cabochonref20.Space).Get -/
theorem rget_ok (S : Sp) (h0 : 0 < S.shapes.length) {N : Nat} (hS : WF S N) (hN : N ≤ 1000000) (o : Int) (n : ByteArray) : Meets Try.prog 57 [dRSp S] (.cons (.ptr 0 [.d]) (.cons (avInt o) (.cons (.val (.string n)) .nil)))
    fun av X κ => av = two (getOf S o n) ∧ X = [dRSp S] ∧ κ = [] := by
  refine Meets.of_vs tabOk Try.func57 (body := ?_) ?_ (by kernel_rfl) Try.ntmps57 (rs := [.tmp 6, .tmp 7]) (by kernel_rfl) rfl (by simp [AV.len]) (by simp only [envOf]; exact rfl) ?_
  rotate_left
  · rfl
  intro w0 I0 F0 hF
  repeat first
    | refine VS.seq ?_
    | (refine VS.keepAt 0 [0, 1, 2] ?_; generalize hK : VS _ _ _ = KK; (try simp); (try subst hK); refine VS.region tabOk (id := 0) [] (by kernel_rfl) ?_; generalize hK : VS _ _ _ = KK; simp (maxSteps := 1000000) [hF]; (try subst hK); try (refine VS.keep [0, 1, 2] ?_; generalize hK : VS _ _ _ = KK; simp; (try subst hK)))
    | (refine VS.keepAt 1 [0, 1, 2] ?_; generalize hK : VS _ _ _ = KK; (try simp); (try subst hK); refine VS.region tabOk (id := 1) [] (by kernel_rfl) ?_; generalize hK : VS _ _ _ = KK; simp (maxSteps := 1000000) [hF]; (try subst hK); try (refine VS.keep [0, 1, 2, 12] ?_; generalize hK : VS _ _ _ = KK; simp; (try subst hK)))
  refine (object_ok S h0 o).call [(0, [])] (by simp) (by simp (maxSteps := 1000000) [hF, dRSp, dBool]) (by simp (maxSteps := 1000000) [hF, dRSp, dBool]) (by simp (maxSteps := 1000000) [hF, dRSp, dBool]) ?_
  rintro av X κ ⟨rfl, rfl, rfl⟩
  generalize hK : VS _ _ _ = KK; simp (maxSteps := 1000000) [hF, dRSp, dBool]; (try subst hK)
  repeat first
    | (refine VS.cond ?_; generalize hK1 : VS _ _ _ = KK1; generalize hK2 : VS _ _ _ = KK2; simp (maxSteps := 1000000) [hF]; (try subst hK1); (try subst hK2))
  refine ⟨fun h => ?_, fun h => ?_⟩
  · repeat first
      | refine VS.seq ?_
      | (refine VS.keepAt 2 [] ?_; generalize hK : VS _ _ _ = KK; (try simp); (try subst hK); refine VS.region tabOk (id := 2) [] (by kernel_rfl) ?_; generalize hK : VS _ _ _ = KK; simp (maxSteps := 1000000) [hF]; (try subst hK); try (refine VS.keep [6, 7] ?_; generalize hK : VS _ _ _ = KK; simp; (try subst hK)))
    try refine VS.ret ?_
    repeat first | refine blockN_ret ?_ | refine loopN_ret ?_
    refine endK.of [6, 7] [0] [] (by simp [hF]) (by simp [covers, mpre]) ?_
    simp [hF, retK, dRSp, dBool, getOf, ask_no h n false]
  · obtain ⟨j, rfl, hj, _⟩ := hasB_true h
    have ho := hS.ob _ (List.getElem_mem hj)
    have hnl := ho.names_len
    have hwl := ho.1
    repeat first
      | refine VS.seq ?_
      | refine VS.skip ?_
      | (refine VS.keepAt 3 [0, 1, 2] ?_; generalize hK : VS _ _ _ = KK; (try simp); (try subst hK); refine VS.region tabOk (id := 3) [] (by kernel_rfl) ?_; generalize hK : VS _ _ _ = KK; simp (maxSteps := 1000000) [hF]; (try subst hK); try (refine VS.keep [0, 1, 2, 15] ?_; generalize hK : VS _ _ _ = KK; simp; (try subst hK)))
    refine (rnamed_ok n).call [] (by simp) (by simp (maxSteps := 1000000) [hF, dRSp, dBool]) (by simp (maxSteps := 1000000) [hF, dRSp, dBool]) (by simp (maxSteps := 1000000) [hF, dRSp, dBool]) ?_
    rintro av X κ ⟨rfl, rfl, rfl⟩
    generalize hK : VS _ _ _ = KK; simp (maxSteps := 1000000) [hF, dRSp, dBool]; (try subst hK)
    repeat first
      | (refine VS.cond ?_; generalize hK1 : VS _ _ _ = KK1; generalize hK2 : VS _ _ _ = KK2; simp (maxSteps := 1000000) [hF]; (try subst hK1); (try subst hK2))
    refine ⟨fun hn => ?_, fun hn => ?_⟩
    · repeat first
        | refine VS.seq ?_
        | (refine VS.keepAt 4 [] ?_; generalize hK : VS _ _ _ = KK; (try simp); (try subst hK); refine VS.region tabOk (id := 4) [] (by kernel_rfl) ?_; generalize hK : VS _ _ _ = KK; simp (maxSteps := 1000000) [hF]; (try subst hK); try (refine VS.keep [6, 7] ?_; generalize hK : VS _ _ _ = KK; simp; (try subst hK)))
      try refine VS.ret ?_
      repeat first | refine blockN_ret ?_ | refine loopN_ret ?_
      refine endK.of [6, 7] [0] [] (by simp [hF]) (by simp [covers, mpre]) ?_
      simp [hF, retK, dRSp, dBool, getOf, ask_name h hn false]
    · repeat first
        | refine VS.seq ?_
        | refine VS.skip ?_
        | (refine VS.keepAt 5 [0, 1, 2] ?_; generalize hK : VS _ _ _ = KK; (try simp); (try subst hK); refine VS.region tabOk (id := 5) [] (by kernel_rfl) ?_; generalize hK : VS _ _ _ = KK; simp (maxSteps := 1000000) [hF, dRSp, dBool, dRObs_at hj, hj]; (try subst hK); try (refine VS.keep [0, 1, 8] ?_; generalize hK : VS _ _ _ = KK; simp; (try subst hK)))
      refine (place_ok true false S.objs[j].names n (by omega)).call [(0, [.d, .f 2, .i j, .f 1])] (by simp) (by simp (maxSteps := 1000000) [hF, dRSp, dBool, dRObs_at hj, hj, setN_of (dRObs_at hj)]) (by simp (maxSteps := 1000000) [hF, dRSp, dBool, dRObs_at hj, hj, setN_of (dRObs_at hj)]) (by simp (maxSteps := 1000000) [hF, dRSp, dBool, dRObs_at hj, hj, setN_of (dRObs_at hj)]) ?_
      rintro av X κ ⟨rfl, rfl, rfl⟩
      generalize hK : VS _ _ _ = KK; simp (maxSteps := 1000000) [hF, dRSp, dBool, dRObs_at hj, hj, setN_of (dRObs_at hj)]; (try subst hK)
      repeat first
        | refine VS.seq ?_
        | (refine VS.keepAt 6 [0, 1, 8] ?_; generalize hK : VS _ _ _ = KK; (try simp); (try subst hK); refine VS.region tabOk (id := 6) [] (by kernel_rfl) ?_; generalize hK : VS _ _ _ = KK; simp (maxSteps := 1000000) [hF]; (try subst hK); try (refine VS.keep [0, 1, 8, 27] ?_; generalize hK : VS _ _ _ = KK; simp; (try subst hK)))
        | (refine VS.cond ?_; generalize hK1 : VS _ _ _ = KK1; generalize hK2 : VS _ _ _ = KK2; simp (maxSteps := 1000000) [hF]; (try subst hK1); (try subst hK2))
      refine ⟨fun hp => ?_, fun hp => ?_⟩
      · repeat first
          | refine VS.seq ?_
          | (refine VS.keepAt 7 [] ?_; generalize hK : VS _ _ _ = KK; (try simp); (try subst hK); refine VS.region tabOk (id := 7) [] (by kernel_rfl) ?_; generalize hK : VS _ _ _ = KK; simp (maxSteps := 1000000) [hF]; (try subst hK); try (refine VS.keep [6, 7] ?_; generalize hK : VS _ _ _ = KK; simp; (try subst hK)))
        try refine VS.ret ?_
        repeat first | refine blockN_ret ?_ | refine loopN_ret ?_
        refine endK.of [6, 7] [0] [] (by simp [hF]) (by simp [covers, mpre]) ?_
        simp [hF, retK, dRSp, dBool, getOf, ask_get h hn, obAt_eq hj, hp]
      · have hp' : ¬ posIn n S.objs[j].names < 0 := by omega
        obtain ⟨hlt, hlt'⟩ := posIn_words hwl hp
        have hnth := dInts_nth hlt
        repeat first
          | refine VS.seq ?_
          | refine VS.skip ?_
          | (refine VS.keepAt 8 [0, 1, 8] ?_; generalize hK : VS _ _ _ = KK; (try simp); (try subst hK); refine VS.region tabOk (id := 8) [] (by kernel_rfl) ?_; generalize hK : VS _ _ _ = KK; simp (maxSteps := 1000000) [hF, dRSp, dBool, dRObs_at hj, hj, hp, hlt, hlt', hnth]; (try subst hK); try (refine VS.keep [6, 7] ?_; generalize hK : VS _ _ _ = KK; simp; (try subst hK)))
        try refine VS.ret ?_
        repeat first | refine blockN_ret ?_ | refine loopN_ret ?_
        refine endK.of [6, 7] [0] [] (by simp [hF]) (by simp [covers, mpre]) ?_
        simp [hF, retK, dRSp, dBool, getOf, ask_get h hn, obAt_eq hj, hp', hlt]

/- (*cabochon/cabochonref20.Space).Frozen -/
theorem rfrozen_ok (S : Sp) (h0 : 0 < S.shapes.length) (o : Int) : Meets Try.prog 64 [dRSp S] (.cons (.ptr 0 [.d]) (.cons (avInt o) .nil))
    fun av X κ => av = .tup (.cons (.val (.bool (frozenOf S o).1)) (.cons (avInt (frozenOf S o).2) .nil)) ∧ X = [dRSp S] ∧ κ = [] := by
  refine Meets.of_vs tabOk Try.func64 (body := ?_) ?_ (by kernel_rfl) Try.ntmps64 (rs := [.tmp 4, .tmp 5]) (by kernel_rfl) rfl (by simp [AV.len]) (by simp only [envOf]; exact rfl) ?_
  rotate_left
  · rfl
  intro w0 I0 F0 hF
  repeat first
    | refine VS.seq ?_
    | (refine VS.keepAt 0 [0, 1] ?_; generalize hK : VS _ _ _ = KK; (try simp); (try subst hK); refine VS.region tabOk (id := 0) [] (by kernel_rfl) ?_; generalize hK : VS _ _ _ = KK; simp (maxSteps := 1000000) [hF]; (try subst hK); try (refine VS.keep [0, 1] ?_; generalize hK : VS _ _ _ = KK; simp; (try subst hK)))
    | (refine VS.keepAt 1 [0, 1] ?_; generalize hK : VS _ _ _ = KK; (try simp); (try subst hK); refine VS.region tabOk (id := 1) [] (by kernel_rfl) ?_; generalize hK : VS _ _ _ = KK; simp (maxSteps := 1000000) [hF]; (try subst hK); try (refine VS.keep [0, 1, 9] ?_; generalize hK : VS _ _ _ = KK; simp; (try subst hK)))
  refine (object_ok S h0 o).call [(0, [])] (by simp) (by simp (maxSteps := 1000000) [hF, dRSp, dBool]) (by simp (maxSteps := 1000000) [hF, dRSp, dBool]) (by simp (maxSteps := 1000000) [hF, dRSp, dBool]) ?_
  rintro av X κ ⟨rfl, rfl, rfl⟩
  generalize hK : VS _ _ _ = KK; simp (maxSteps := 1000000) [hF, dRSp, dBool]; (try subst hK)
  repeat first
    | (refine VS.cond ?_; generalize hK1 : VS _ _ _ = KK1; generalize hK2 : VS _ _ _ = KK2; simp (maxSteps := 1000000) [hF]; (try subst hK1); (try subst hK2))
  refine ⟨fun h => ?_, fun h => ?_⟩
  · repeat first
      | refine VS.seq ?_
      | (refine VS.keepAt 2 [] ?_; generalize hK : VS _ _ _ = KK; (try simp); (try subst hK); refine VS.region tabOk (id := 2) [] (by kernel_rfl) ?_; generalize hK : VS _ _ _ = KK; simp (maxSteps := 1000000) [hF]; (try subst hK); try (refine VS.keep [4, 5] ?_; generalize hK : VS _ _ _ = KK; simp; (try subst hK)))
    try refine VS.ret ?_
    repeat first | refine blockN_ret ?_ | refine loopN_ret ?_
    refine endK.of [4, 5] [0] [] (by simp [hF]) (by simp [covers, mpre]) ?_
    simp [hF, retK, dRSp, dBool, frozenOf, h]
  · obtain ⟨j, rfl, hj, h0⟩ := hasB_true h
    repeat first
      | refine VS.seq ?_
      | refine VS.skip ?_
      | (refine VS.keepAt 3 [0, 1] ?_; generalize hK : VS _ _ _ = KK; (try simp); (try subst hK); refine VS.region tabOk (id := 3) [] (by kernel_rfl) ?_; generalize hK : VS _ _ _ = KK; simp (maxSteps := 1000000) [hF, dRSp, dBool, dRObs_at hj, hj, h]; (try subst hK); try (refine VS.keep [4, 5] ?_; generalize hK : VS _ _ _ = KK; simp; (try subst hK)))
    try refine VS.ret ?_
    repeat first | refine blockN_ret ?_ | refine loopN_ret ?_
    refine endK.of [4, 5] [0] [] (by simp [hF]) (by simp [covers, mpre]) ?_
    simp [hF, retK, dRSp, dBool, frozenOf, h, obAt_eq hj]

/- (*cabochon/cabochonref20.Space).Freeze -/
theorem rfreeze_ok (S : Sp) (h0 : 0 < S.shapes.length) (o : Int) : Meets Try.prog 59 [dRSp S] (.cons (.ptr 0 [.d]) (.cons (avInt o) .nil))
    fun av X κ => av = avInt (freezeOf S o).2 ∧ X = [dRSp (freezeOf S o).1] ∧ κ = [(0, [.d])] := by
  refine Meets.of_vs tabOk Try.func59 (body := ?_) ?_ (by kernel_rfl) Try.ntmps59 (rs := [.tmp 4]) (by kernel_rfl) rfl (by simp [AV.len]) (by simp only [envOf]; exact rfl) ?_
  rotate_left
  · rfl
  intro w0 I0 F0 hF
  repeat first
    | refine VS.seq ?_
    | (refine VS.keepAt 0 [0, 1] ?_; generalize hK : VS _ _ _ = KK; (try simp); (try subst hK); refine VS.region tabOk (id := 0) [] (by kernel_rfl) ?_; generalize hK : VS _ _ _ = KK; simp (maxSteps := 1000000) [hF]; (try subst hK); try (refine VS.keep [0, 1] ?_; generalize hK : VS _ _ _ = KK; simp; (try subst hK)))
    | (refine VS.keepAt 1 [0, 1] ?_; generalize hK : VS _ _ _ = KK; (try simp); (try subst hK); refine VS.region tabOk (id := 1) [] (by kernel_rfl) ?_; generalize hK : VS _ _ _ = KK; simp (maxSteps := 1000000) [hF]; (try subst hK); try (refine VS.keep [0, 1, 8] ?_; generalize hK : VS _ _ _ = KK; simp; (try subst hK)))
  refine (object_ok S h0 o).call [(0, [])] (by simp) (by simp (maxSteps := 1000000) [hF, dRSp, dBool]) (by simp (maxSteps := 1000000) [hF, dRSp, dBool]) (by simp (maxSteps := 1000000) [hF, dRSp, dBool]) ?_
  rintro av X κ ⟨rfl, rfl, rfl⟩
  generalize hK : VS _ _ _ = KK; simp (maxSteps := 1000000) [hF, dRSp, dBool]; (try subst hK)
  repeat first
    | (refine VS.cond ?_; generalize hK1 : VS _ _ _ = KK1; generalize hK2 : VS _ _ _ = KK2; simp (maxSteps := 1000000) [hF]; (try subst hK1); (try subst hK2))
  refine ⟨fun h => ?_, fun h => ?_⟩
  · repeat first
      | refine VS.seq ?_
      | (refine VS.keepAt 2 [] ?_; generalize hK : VS _ _ _ = KK; (try simp); (try subst hK); refine VS.region tabOk (id := 2) [] (by kernel_rfl) ?_; generalize hK : VS _ _ _ = KK; simp (maxSteps := 1000000) [hF]; (try subst hK); try (refine VS.keep [4] ?_; generalize hK : VS _ _ _ = KK; simp; (try subst hK)))
    try refine VS.ret ?_
    repeat first | refine blockN_ret ?_ | refine loopN_ret ?_
    refine endK.of [4] [0] [(0, [.d])] (by simp [hF]) (by simp [covers, mpre]) ?_
    simp [hF, retK, dRSp, dBool, freezeOf, h]
  · obtain ⟨j, rfl, hj, h0⟩ := hasB_true h
    have e1 := dRObs_set S.objs j { S.objs[j] with frozen := true }
    repeat first
      | refine VS.seq ?_
      | refine VS.skip ?_
      | (refine VS.keepAt 3 [0, 1] ?_; generalize hK : VS _ _ _ = KK; (try simp); (try subst hK); refine VS.region tabOk (id := 3) [] (by kernel_rfl) ?_; generalize hK : VS _ _ _ = KK; simp (maxSteps := 1000000) [hF, dRSp, dBool, dRObs_at hj, hj, h]; (try subst hK); try (refine VS.keep [] ?_; generalize hK : VS _ _ _ = KK; simp; (try subst hK)))
      | (refine VS.keepAt 4 [] ?_; generalize hK : VS _ _ _ = KK; (try simp); (try subst hK); refine VS.region tabOk (id := 4) [] (by kernel_rfl) ?_; generalize hK : VS _ _ _ = KK; simp (maxSteps := 1000000) [hF, dRSp, dBool, dRObs_at hj, hj, h]; (try subst hK); try (refine VS.keep [4] ?_; generalize hK : VS _ _ _ = KK; simp; (try subst hK)))
    try refine VS.ret ?_
    repeat first | refine blockN_ret ?_ | refine loopN_ret ?_
    refine endK.of [4] [0] [(0, [.d])] (by simp [hF]) (by simp [covers, mpre]) ?_
    simp [hF, retK, dRSp, dBool, freezeOf, h, obAt_eq hj, setOb, e1]

/- (*cabochon/cabochonref20.Space).Parent -/
theorem rparent_ok (S : Sp) (h0 : 0 < S.shapes.length) (k : Int) : Meets Try.prog 63 [dRSp S] (.cons (.ptr 0 [.d]) (.cons (avInt k) .nil))
    fun av X κ => av = two (parentOf S k) ∧ X = [dRSp S] ∧ κ = [] := by
  refine Meets.of_vs tabOk Try.func63 (body := ?_) ?_ (by kernel_rfl) Try.ntmps63 (rs := [.tmp 4, .tmp 5]) (by kernel_rfl) rfl (by simp [AV.len]) (by simp only [envOf]; exact rfl) ?_
  rotate_left
  · rfl
  intro w0 I0 F0 hF
  repeat first
    | refine VS.seq ?_
    | (refine VS.keepAt 0 [0, 1] ?_; generalize hK : VS _ _ _ = KK; (try simp); (try subst hK); refine VS.region tabOk (id := 0) [] (by kernel_rfl) ?_; generalize hK : VS _ _ _ = KK; simp (maxSteps := 1000000) [hF]; (try subst hK); try (refine VS.keep [0, 1] ?_; generalize hK : VS _ _ _ = KK; simp; (try subst hK)))
    | (refine VS.keepAt 1 [0, 1] ?_; generalize hK : VS _ _ _ = KK; (try simp); (try subst hK); refine VS.region tabOk (id := 1) [(2, 8), (6, 12)] (by kernel_rfl) ?_; generalize hK : VS _ _ _ = KK; simp (maxSteps := 1000000) [hF]; (try subst hK); try (refine VS.keep [0, 1, 20] ?_; generalize hK : VS _ _ _ = KK; simp; (try subst hK)))
  by_cases hk : 0 ≤ k ∧ k < S.shapes.length
  · obtain ⟨j, rfl⟩ : ∃ j : Nat, k = j := ⟨k.toNat, by omega⟩
    have hj : j < S.shapes.length := by omega
    have h1 : shapedB S j = true := by simp [shapedB]; omega
    have hj' : (j : Int) < S.shapes.length := by omega
    have hj2 : ¬ (S.shapes.length : Int) ≤ j := by omega
    have hj3 : ¬ (j : Int) < 0 := by omega
    refine (no_ok S).call [(0, [])] (by simp) (by simp (maxSteps := 1000000) [hF, dRSp, dBool, hj', hj2, hj3]) (by simp (maxSteps := 1000000) [hF, dRSp, dBool, hj', hj2, hj3]) (by simp (maxSteps := 1000000) [hF, dRSp, dBool, hj', hj2, hj3]) ?_
    rintro av X κ ⟨rfl, rfl, rfl⟩
    generalize hK : VS _ _ _ = KK; simp (maxSteps := 1000000) [hF, dRSp, dBool, hj', hj2, hj3]; (try subst hK)
    repeat first
      | refine VS.seq ?_
      | refine VS.skip ?_
      | (refine VS.keepAt 3 [0, 1] ?_; generalize hK : VS _ _ _ = KK; (try simp); (try subst hK); refine VS.region tabOk (id := 3) [] (by kernel_rfl) ?_; generalize hK : VS _ _ _ = KK; simp (maxSteps := 1000000) [hF, dRSp, dBool, dRShs_at hj, hj]; (try subst hK); try (refine VS.keep [4, 5] ?_; generalize hK : VS _ _ _ = KK; simp; (try subst hK)))
      | (refine VS.cond ?_; generalize hK1 : VS _ _ _ = KK1; generalize hK2 : VS _ _ _ = KK2; simp (maxSteps := 1000000) [hF, dRSp, dBool, dRShs_at hj, hj]; (try subst hK1); (try subst hK2))
    try refine VS.ret ?_
    repeat first | refine blockN_ret ?_ | refine loopN_ret ?_
    refine endK.of [4, 5] [0] [] (by simp [hF]) (by simp [covers, mpre]) ?_
    simp [hF, retK, dRSp, dBool, parentOf, h1, hj]
  · have h1 : shapedB S k = false := by simp [shapedB]; omega
    by_cases hk0 : k < 0
    · refine (no_ok S).call [(0, [])] (by simp) (by simp (maxSteps := 1000000) [hF, dRSp, dBool, hk0]) (by simp (maxSteps := 1000000) [hF, dRSp, dBool, hk0]) (by simp (maxSteps := 1000000) [hF, dRSp, dBool, hk0]) ?_
      rintro av X κ ⟨rfl, rfl, rfl⟩
      generalize hK : VS _ _ _ = KK; simp (maxSteps := 1000000) [hF, dRSp, dBool, hk0]; (try subst hK)
      repeat first
        | refine VS.seq ?_
        | (refine VS.keepAt 2 [] ?_; generalize hK : VS _ _ _ = KK; (try simp); (try subst hK); refine VS.region tabOk (id := 2) [] (by kernel_rfl) ?_; generalize hK : VS _ _ _ = KK; simp (maxSteps := 1000000) [hF, dRSp, dBool, hk0]; (try subst hK); try (refine VS.keep [4, 5] ?_; generalize hK : VS _ _ _ = KK; simp; (try subst hK)))
        | (refine VS.cond ?_; generalize hK1 : VS _ _ _ = KK1; generalize hK2 : VS _ _ _ = KK2; simp (maxSteps := 1000000) [hF, dRSp, dBool, hk0]; (try subst hK1); (try subst hK2))
      try refine VS.ret ?_
      repeat first | refine blockN_ret ?_ | refine loopN_ret ?_
      refine endK.of [4, 5] [0] [] (by simp [hF]) (by simp [covers, mpre]) ?_
      simp [hF, retK, dRSp, dBool, parentOf, h1]
    · have hk1 : (S.shapes.length : Int) ≤ k := by omega
      have hk2 : ¬ k < S.shapes.length := by omega
      refine (no_ok S).call [(0, [])] (by simp) (by simp (maxSteps := 1000000) [hF, dRSp, dBool, hk0, hk1, hk2]) (by simp (maxSteps := 1000000) [hF, dRSp, dBool, hk0, hk1, hk2]) (by simp (maxSteps := 1000000) [hF, dRSp, dBool, hk0, hk1, hk2]) ?_
      rintro av X κ ⟨rfl, rfl, rfl⟩
      generalize hK : VS _ _ _ = KK; simp (maxSteps := 1000000) [hF, dRSp, dBool, hk0, hk1, hk2]; (try subst hK)
      repeat first
        | refine VS.seq ?_
        | (refine VS.keepAt 2 [] ?_; generalize hK : VS _ _ _ = KK; (try simp); (try subst hK); refine VS.region tabOk (id := 2) [] (by kernel_rfl) ?_; generalize hK : VS _ _ _ = KK; simp (maxSteps := 1000000) [hF, dRSp, dBool, hk0, hk1]; (try subst hK); try (refine VS.keep [4, 5] ?_; generalize hK : VS _ _ _ = KK; simp; (try subst hK)))
        | (refine VS.cond ?_; generalize hK1 : VS _ _ _ = KK1; generalize hK2 : VS _ _ _ = KK2; simp (maxSteps := 1000000) [hF, dRSp, dBool, hk0, hk1]; (try subst hK1); (try subst hK2))
      try refine VS.ret ?_
      repeat first | refine blockN_ret ?_ | refine loopN_ret ?_
      refine endK.of [4, 5] [0] [] (by simp [hF]) (by simp [covers, mpre]) ?_
      simp [hF, retK, dRSp, dBool, parentOf, h1]

/- (*cabochon/cabochonref20.Space).Slot -/
theorem rslot_ok (S : Sp) (h0 : 0 < S.shapes.length) (hS : ShOk S.shapes) (k : Int) (n : ByteArray) : Meets Try.prog 62 [dRSp S] (.cons (.ptr 0 [.d]) (.cons (avInt k) (.cons (.val (.string n)) .nil)))
    fun av X κ => av = two (slotOf S k n) ∧ X = [dRSp S] ∧ κ = [] := by
  refine Meets.of_vs tabOk Try.func62 (body := ?_) ?_ (by kernel_rfl) Try.ntmps62 (rs := [.tmp 6, .tmp 7]) (by kernel_rfl) rfl (by simp [AV.len]) (by simp only [envOf]; exact rfl) ?_
  rotate_left
  · rfl
  intro w0 I0 F0 hF
  repeat first
    | refine VS.seq ?_
    | (refine VS.keepAt 0 [0, 1, 2] ?_; generalize hK : VS _ _ _ = KK; (try simp); (try subst hK); refine VS.region tabOk (id := 0) [] (by kernel_rfl) ?_; generalize hK : VS _ _ _ = KK; simp (maxSteps := 1000000) [hF]; (try subst hK); try (refine VS.keep [0, 1, 2] ?_; generalize hK : VS _ _ _ = KK; simp; (try subst hK)))
    | (refine VS.keepAt 1 [0, 1, 2] ?_; generalize hK : VS _ _ _ = KK; (try simp); (try subst hK); refine VS.region tabOk (id := 1) [(2, 11), (6, 15)] (by kernel_rfl) ?_; generalize hK : VS _ _ _ = KK; simp (maxSteps := 1000000) [hF]; (try subst hK); try (refine VS.keep [0, 1, 2, 23] ?_; generalize hK : VS _ _ _ = KK; simp; (try subst hK)))
  by_cases hk : 0 ≤ k ∧ k < S.shapes.length
  · obtain ⟨j, rfl⟩ : ∃ j : Nat, k = j := ⟨k.toNat, by omega⟩
    have hj : j < S.shapes.length := by omega
    have hd := hS.deep j hj
    have h1 : shapedB S j = true := by simp [shapedB]; omega
    have hj' : (j : Int) < S.shapes.length := by omega
    have hj2 : ¬ (S.shapes.length : Int) ≤ j := by omega
    have hj3 : ¬ (j : Int) < 0 := by omega
    refine (no_ok S).call [(0, [])] (by simp) (by simp (maxSteps := 1000000) [hF, dRSp, dBool, hj', hj2, hj3]) (by simp (maxSteps := 1000000) [hF, dRSp, dBool, hj', hj2, hj3]) (by simp (maxSteps := 1000000) [hF, dRSp, dBool, hj', hj2, hj3]) ?_
    rintro av X κ ⟨rfl, rfl, rfl⟩
    generalize hK : VS _ _ _ = KK; simp (maxSteps := 1000000) [hF, dRSp, dBool, hj', hj2, hj3]; (try subst hK)
    repeat first
      | refine VS.seq ?_
      | refine VS.skip ?_
      | (refine VS.keepAt 3 [0, 1, 2] ?_; generalize hK : VS _ _ _ = KK; (try simp); (try subst hK); refine VS.region tabOk (id := 3) [] (by kernel_rfl) ?_; generalize hK : VS _ _ _ = KK; simp (maxSteps := 1000000) [hF, dRSp, dBool, dRShs_at hj, hj]; (try subst hK); try (refine VS.keep [0, 1, 2, 26] ?_; generalize hK : VS _ _ _ = KK; simp; (try subst hK)))
      | (refine VS.cond ?_; generalize hK1 : VS _ _ _ = KK1; generalize hK2 : VS _ _ _ = KK2; simp (maxSteps := 1000000) [hF, dRSp, dBool, dRShs_at hj, hj]; (try subst hK1); (try subst hK2))
    refine (rnamed_ok n).call [] (by simp) (by simp (maxSteps := 1000000) [hF, dRSp, dBool]) (by simp (maxSteps := 1000000) [hF, dRSp, dBool]) (by simp (maxSteps := 1000000) [hF, dRSp, dBool]) ?_
    rintro av X κ ⟨rfl, rfl, rfl⟩
    generalize hK : VS _ _ _ = KK; simp (maxSteps := 1000000) [hF, dRSp, dBool]; (try subst hK)
    repeat first
      | (refine VS.cond ?_; generalize hK1 : VS _ _ _ = KK1; generalize hK2 : VS _ _ _ = KK2; simp (maxSteps := 1000000) [hF]; (try subst hK1); (try subst hK2))
    refine ⟨fun hn => ?_, fun hn => ?_⟩
    · repeat first
        | refine VS.seq ?_
        | (refine VS.keepAt 4 [] ?_; generalize hK : VS _ _ _ = KK; (try simp); (try subst hK); refine VS.region tabOk (id := 4) [] (by kernel_rfl) ?_; generalize hK : VS _ _ _ = KK; simp (maxSteps := 1000000) [hF]; (try subst hK); try (refine VS.keep [6, 7] ?_; generalize hK : VS _ _ _ = KK; simp; (try subst hK)))
      try refine VS.ret ?_
      repeat first | refine blockN_ret ?_ | refine loopN_ret ?_
      refine endK.of [6, 7] [0] [] (by simp [hF]) (by simp [covers, mpre]) ?_
      simp [hF, retK, dRSp, dBool, slotOf, h1, namedB_slot, hn]
    · repeat first
        | refine VS.seq ?_
        | refine VS.skip ?_
        | (refine VS.keepAt 5 [0, 1, 2] ?_; generalize hK : VS _ _ _ = KK; (try simp); (try subst hK); refine VS.region tabOk (id := 5) [] (by kernel_rfl) ?_; generalize hK : VS _ _ _ = KK; simp (maxSteps := 1000000) [hF, dRSp, dBool, dRShs_at hj, hj]; (try subst hK); try (refine VS.keep [8] ?_; generalize hK : VS _ _ _ = KK; simp; (try subst hK)))
      refine (place_ok true false S.shapes[j].names n (by omega)).call [(0, [.d, .f 1, .i j, .f 1])] (by simp) (by simp (maxSteps := 1000000) [hF, dRSp, dBool, dRShs_at hj, hj, setN_of (dRShs_at hj)]) (by simp (maxSteps := 1000000) [hF, dRSp, dBool, dRShs_at hj, hj, setN_of (dRShs_at hj)]) (by simp (maxSteps := 1000000) [hF, dRSp, dBool, dRShs_at hj, hj, setN_of (dRShs_at hj)]) ?_
      rintro av X κ ⟨rfl, rfl, rfl⟩
      generalize hK : VS _ _ _ = KK; simp (maxSteps := 1000000) [hF, dRSp, dBool, dRShs_at hj, hj, setN_of (dRShs_at hj)]; (try subst hK)
      repeat first
        | refine VS.seq ?_
        | (refine VS.keepAt 6 [8] ?_; generalize hK : VS _ _ _ = KK; (try simp); (try subst hK); refine VS.region tabOk (id := 6) [] (by kernel_rfl) ?_; generalize hK : VS _ _ _ = KK; simp (maxSteps := 1000000) [hF]; (try subst hK); try (refine VS.keep [8, 38] ?_; generalize hK : VS _ _ _ = KK; simp; (try subst hK)))
        | (refine VS.cond ?_; generalize hK1 : VS _ _ _ = KK1; generalize hK2 : VS _ _ _ = KK2; simp (maxSteps := 1000000) [hF]; (try subst hK1); (try subst hK2))
      refine ⟨fun hp => ?_, fun hp => ?_⟩
      · repeat first
          | refine VS.seq ?_
          | (refine VS.keepAt 7 [] ?_; generalize hK : VS _ _ _ = KK; (try simp); (try subst hK); refine VS.region tabOk (id := 7) [] (by kernel_rfl) ?_; generalize hK : VS _ _ _ = KK; simp (maxSteps := 1000000) [hF]; (try subst hK); try (refine VS.keep [6, 7] ?_; generalize hK : VS _ _ _ = KK; simp; (try subst hK)))
        try refine VS.ret ?_
        repeat first | refine blockN_ret ?_ | refine loopN_ret ?_
        refine endK.of [6, 7] [0] [] (by simp [hF]) (by simp [covers, mpre]) ?_
        simp [hF, retK, dRSp, dBool, slotOf, h1, namedB_slot, hn, hj, hp]
      · have hp' : ¬ posIn n S.shapes[j].names < 0 := by omega
        repeat first
          | refine VS.seq ?_
          | refine VS.skip ?_
          | (refine VS.keepAt 8 [8] ?_; generalize hK : VS _ _ _ = KK; (try simp); (try subst hK); refine VS.region tabOk (id := 8) [] (by kernel_rfl) ?_; generalize hK : VS _ _ _ = KK; simp (maxSteps := 1000000) [hF]; (try subst hK); try (refine VS.keep [6, 7] ?_; generalize hK : VS _ _ _ = KK; simp; (try subst hK)))
        try refine VS.ret ?_
        repeat first | refine blockN_ret ?_ | refine loopN_ret ?_
        refine endK.of [6, 7] [0] [] (by simp [hF]) (by simp [covers, mpre]) ?_
        simp [hF, retK, dRSp, dBool, slotOf, h1, namedB_slot, hn, hj, hp']
  · have h1 : shapedB S k = false := by simp [shapedB]; omega
    by_cases hk0 : k < 0
    · refine (no_ok S).call [(0, [])] (by simp) (by simp (maxSteps := 1000000) [hF, dRSp, dBool, hk0]) (by simp (maxSteps := 1000000) [hF, dRSp, dBool, hk0]) (by simp (maxSteps := 1000000) [hF, dRSp, dBool, hk0]) ?_
      rintro av X κ ⟨rfl, rfl, rfl⟩
      generalize hK : VS _ _ _ = KK; simp (maxSteps := 1000000) [hF, dRSp, dBool, hk0]; (try subst hK)
      repeat first
        | refine VS.seq ?_
        | (refine VS.keepAt 2 [] ?_; generalize hK : VS _ _ _ = KK; (try simp); (try subst hK); refine VS.region tabOk (id := 2) [] (by kernel_rfl) ?_; generalize hK : VS _ _ _ = KK; simp (maxSteps := 1000000) [hF, dRSp, dBool, hk0]; (try subst hK); try (refine VS.keep [6, 7] ?_; generalize hK : VS _ _ _ = KK; simp; (try subst hK)))
        | (refine VS.cond ?_; generalize hK1 : VS _ _ _ = KK1; generalize hK2 : VS _ _ _ = KK2; simp (maxSteps := 1000000) [hF, dRSp, dBool, hk0]; (try subst hK1); (try subst hK2))
      try refine VS.ret ?_
      repeat first | refine blockN_ret ?_ | refine loopN_ret ?_
      refine endK.of [6, 7] [0] [] (by simp [hF]) (by simp [covers, mpre]) ?_
      simp [hF, retK, dRSp, dBool, slotOf, h1]
    · have hk1 : (S.shapes.length : Int) ≤ k := by omega
      have hk2 : ¬ k < S.shapes.length := by omega
      refine (no_ok S).call [(0, [])] (by simp) (by simp (maxSteps := 1000000) [hF, dRSp, dBool, hk0, hk1, hk2]) (by simp (maxSteps := 1000000) [hF, dRSp, dBool, hk0, hk1, hk2]) (by simp (maxSteps := 1000000) [hF, dRSp, dBool, hk0, hk1, hk2]) ?_
      rintro av X κ ⟨rfl, rfl, rfl⟩
      generalize hK : VS _ _ _ = KK; simp (maxSteps := 1000000) [hF, dRSp, dBool, hk0, hk1, hk2]; (try subst hK)
      repeat first
        | refine VS.seq ?_
        | (refine VS.keepAt 2 [] ?_; generalize hK : VS _ _ _ = KK; (try simp); (try subst hK); refine VS.region tabOk (id := 2) [] (by kernel_rfl) ?_; generalize hK : VS _ _ _ = KK; simp (maxSteps := 1000000) [hF, dRSp, dBool, hk0, hk1]; (try subst hK); try (refine VS.keep [6, 7] ?_; generalize hK : VS _ _ _ = KK; simp; (try subst hK)))
        | (refine VS.cond ?_; generalize hK1 : VS _ _ _ = KK1; generalize hK2 : VS _ _ _ = KK2; simp (maxSteps := 1000000) [hF, dRSp, dBool, hk0, hk1]; (try subst hK1); (try subst hK2))
      try refine VS.ret ?_
      repeat first | refine blockN_ret ?_ | refine loopN_ret ?_
      refine endK.of [6, 7] [0] [] (by simp [hF]) (by simp [covers, mpre]) ?_
      simp [hF, retK, dRSp, dBool, slotOf, h1]

/- (*cabochon/cabochonref20.Space).Names -/
theorem rnames_no (S : Sp) (h0 : 0 < S.shapes.length) (o : Int) (h : hasB S o = false) : Meets Try.prog 61 [dRSp S] (.cons (.ptr 0 [.d]) (.cons (avInt o) .nil))
    fun av X κ => av = .tup (.cons (.nils 1) (.cons (avInt 1) .nil)) ∧ X = [dRSp S] ∧ κ = [] := by
  refine Meets.of_vs tabOk Try.func61 (body := ?_) ?_ (by kernel_rfl) Try.ntmps61 (rs := [.tmp 4, .tmp 5]) (by kernel_rfl) rfl (by simp [AV.len]) (by simp only [envOf]; exact rfl) ?_
  rotate_left
  · rfl
  intro w0 I0 F0 hF
  repeat first
    | refine VS.seq ?_
    | (refine VS.keepAt 0 [0, 1] ?_; generalize hK : VS _ _ _ = KK; (try simp); (try subst hK); refine VS.region tabOk (id := 0) [] (by kernel_rfl) ?_; generalize hK : VS _ _ _ = KK; simp (maxSteps := 1000000) [hF]; (try subst hK); try (refine VS.keep [0, 1] ?_; generalize hK : VS _ _ _ = KK; simp; (try subst hK)))
    | (refine VS.keepAt 1 [0, 1] ?_; generalize hK : VS _ _ _ = KK; (try simp); (try subst hK); refine VS.region tabOk (id := 1) [] (by kernel_rfl) ?_; generalize hK : VS _ _ _ = KK; simp (maxSteps := 1000000) [hF]; (try subst hK); try (refine VS.keep [0, 1, 9] ?_; generalize hK : VS _ _ _ = KK; simp; (try subst hK)))
  refine (object_ok S h0 o).call [(0, [])] (by simp) (by simp (maxSteps := 1000000) [hF, dRSp, dBool, h]) (by simp (maxSteps := 1000000) [hF, dRSp, dBool, h]) (by simp (maxSteps := 1000000) [hF, dRSp, dBool, h]) ?_
  rintro av X κ ⟨rfl, rfl, rfl⟩
  generalize hK : VS _ _ _ = KK; simp (maxSteps := 1000000) [hF, dRSp, dBool, h]; (try subst hK)
  repeat first
    | refine VS.seq ?_
    | (refine VS.keepAt 2 [] ?_; generalize hK : VS _ _ _ = KK; (try simp); (try subst hK); refine VS.region tabOk (id := 2) [] (by kernel_rfl) ?_; generalize hK : VS _ _ _ = KK; simp (maxSteps := 1000000) [hF]; (try subst hK); try (refine VS.keep [4, 5] ?_; generalize hK : VS _ _ _ = KK; simp; (try subst hK)))
    | (refine VS.cond ?_; generalize hK1 : VS _ _ _ = KK1; generalize hK2 : VS _ _ _ = KK2; simp (maxSteps := 1000000) [hF]; (try subst hK1); (try subst hK2))
  try refine VS.ret ?_
  repeat first | refine blockN_ret ?_ | refine loopN_ret ?_
  refine endK.of [4, 5] [0] [] (by simp [hF]) (by simp [covers, mpre]) ?_
  simp [hF, retK, dRSp, dBool]

/- (*cabochon/cabochonref20.Space).Names -/
theorem rnames_yes (S : Sp) (h0 : 0 < S.shapes.length) {N : Nat} (hS : WF S N) (hN : N ≤ 1000000) (j : Nat) (hj : j < S.objs.length) : Meets Try.prog 61 [dRSp S] (.cons (.ptr 0 [.d]) (.cons (avInt j) .nil))
    fun av X κ => av = .tup (.cons (.sub 1 [] 0 (obAt S j).names.length false) (.cons (avInt 0) .nil)) ∧ X = [dRSp S, .sl true () 1 (dStrs (obAt S j).names)] ∧ κ = [] := by
  have h : hasB S j = true := by simp [hasB]; omega
  have hnl := (hS.ob _ (List.getElem_mem hj)).names_len
  refine Meets.of_vs tabOk Try.func61 (body := ?_) ?_ (by kernel_rfl) Try.ntmps61 (rs := [.tmp 4, .tmp 5]) (by kernel_rfl) rfl (by simp [AV.len]) (by simp only [envOf]; exact rfl) ?_
  rotate_left
  · rfl
  intro w0 I0 F0 hF
  repeat first
    | refine VS.seq ?_
    | (refine VS.keepAt 0 [0, 1] ?_; generalize hK : VS _ _ _ = KK; (try simp); (try subst hK); refine VS.region tabOk (id := 0) [] (by kernel_rfl) ?_; generalize hK : VS _ _ _ = KK; simp (maxSteps := 1000000) [hF]; (try subst hK); try (refine VS.keep [0, 1] ?_; generalize hK : VS _ _ _ = KK; simp; (try subst hK)))
    | (refine VS.keepAt 1 [0, 1] ?_; generalize hK : VS _ _ _ = KK; (try simp); (try subst hK); refine VS.region tabOk (id := 1) [] (by kernel_rfl) ?_; generalize hK : VS _ _ _ = KK; simp (maxSteps := 1000000) [hF]; (try subst hK); try (refine VS.keep [0, 1, 9] ?_; generalize hK : VS _ _ _ = KK; simp; (try subst hK)))
  refine (object_ok S h0 j).call [(0, [])] (by simp) (by simp (maxSteps := 1000000) [hF, dRSp, dBool, h]) (by simp (maxSteps := 1000000) [hF, dRSp, dBool, h]) (by simp (maxSteps := 1000000) [hF, dRSp, dBool, h]) ?_
  rintro av X κ ⟨rfl, rfl, rfl⟩
  generalize hK : VS _ _ _ = KK; simp (maxSteps := 1000000) [hF, dRSp, dBool, h]; (try subst hK)
  repeat first
    | refine VS.seq ?_
    | refine VS.skip ?_
    | refine ⟨⟨by omega, by omega⟩, ?_⟩
    | (refine VS.keepAt 3 [0, 1] ?_; generalize hK : VS _ _ _ = KK; (try simp); (try subst hK); refine VS.region tabOk (id := 3) [] (by kernel_rfl) ?_; generalize hK : VS _ _ _ = KK; simp (maxSteps := 1000000) [hF, dRSp, dBool, dRObs_at hj, hj]; (try subst hK); try (refine VS.keep [4, 5] ?_; generalize hK : VS _ _ _ = KK; simp; (try subst hK)))
    | (refine VS.cond ?_; generalize hK1 : VS _ _ _ = KK1; generalize hK2 : VS _ _ _ = KK2; simp (maxSteps := 1000000) [hF, dRSp, dBool, dRObs_at hj, hj]; (try subst hK1); (try subst hK2))
  try refine VS.ret ?_
  repeat first | refine blockN_ret ?_ | refine loopN_ret ?_
  refine endK.of [4, 5] [0, 1] [] (by simp [hF]) (by simp [covers, mpre]) ?_
  simp [hF, retK, dRSp, dBool, obAt_eq hj]

end Go.Proofs.Ythcndkpkkaphoaa

/- The reference's Clone and Delete. -/
namespace Go.Proofs.Ythcndkpkkaphoaa
set_option linter.all false
open Go.Vc Go.Proofs
set_option linter.unusedSimpArgs false
set_option maxRecDepth 100000
set_option maxHeartbeats 4000000
attribute [local irreducible] CallW EqK

/- (*cabochon/cabochonref20.Space).Clone -/
theorem rclone_ok (S : Sp) (h0 : 0 < S.shapes.length) {N : Nat} (hS : WF S N) (hN : N < 1000000) (o : Int) : Meets Try.prog 60 [dRSp S] (.cons (.ptr 0 [.d]) (.cons (avInt o) .nil))
    fun av X κ => av = two (cloneOf S o).2 ∧ X = [dRSp (cloneOf S o).1] ∧ κ = [(0, [.d])] := by
  refine Meets.of_vs tabOk Try.func60 (body := ?_) ?_ (by kernel_rfl) Try.ntmps60 (rs := [.tmp 4, .tmp 5]) (by kernel_rfl) rfl (by simp [AV.len]) (by simp only [envOf]; exact rfl) ?_
  rotate_left
  · rfl
  intro w0 I0 F0 hF
  repeat first
    | refine VS.seq ?_
    | (refine VS.keepAt 0 [0, 1] ?_; generalize hK : VS _ _ _ = KK; (try simp); (try subst hK); refine VS.region tabOk (id := 0) [] (by kernel_rfl) ?_; generalize hK : VS _ _ _ = KK; simp (maxSteps := 1000000) [hF]; (try subst hK); try (refine VS.keep [0, 1] ?_; generalize hK : VS _ _ _ = KK; simp; (try subst hK)))
    | (refine VS.keepAt 1 [0, 1] ?_; generalize hK : VS _ _ _ = KK; (try simp); (try subst hK); refine VS.region tabOk (id := 1) [] (by kernel_rfl) ?_; generalize hK : VS _ _ _ = KK; simp (maxSteps := 1000000) [hF]; (try subst hK); try (refine VS.keep [0, 1, 10] ?_; generalize hK : VS _ _ _ = KK; simp; (try subst hK)))
  refine (object_ok S h0 o).call [(0, [])] (by simp) (by simp (maxSteps := 1000000) [hF, dRSp, dBool]) (by simp (maxSteps := 1000000) [hF, dRSp, dBool]) (by simp (maxSteps := 1000000) [hF, dRSp, dBool]) ?_
  rintro av X κ ⟨rfl, rfl, rfl⟩
  generalize hK : VS _ _ _ = KK; simp (maxSteps := 1000000) [hF, dRSp, dBool]; (try subst hK)
  repeat first
    | (refine VS.cond ?_; generalize hK1 : VS _ _ _ = KK1; generalize hK2 : VS _ _ _ = KK2; simp (maxSteps := 1000000) [hF]; (try subst hK1); (try subst hK2))
  refine ⟨fun h => ?_, fun h => ?_⟩
  · repeat first
      | refine VS.seq ?_
      | (refine VS.keepAt 2 [] ?_; generalize hK : VS _ _ _ = KK; (try simp); (try subst hK); refine VS.region tabOk (id := 2) [] (by kernel_rfl) ?_; generalize hK : VS _ _ _ = KK; simp (maxSteps := 1000000) [hF]; (try subst hK); try (refine VS.keep [4, 5] ?_; generalize hK : VS _ _ _ = KK; simp; (try subst hK)))
    try refine VS.ret ?_
    repeat first | refine blockN_ret ?_ | refine loopN_ret ?_
    refine endK.of [4, 5] [0] [(0, [.d])] (by simp [hF]) (by simp [covers, mpre]) ?_
    simp [hF, retK, dRSp, dBool, cloneOf, h]
  · obtain ⟨j, rfl, hj, h0⟩ := hasB_true h
    repeat first
      | refine VS.seq ?_
      | refine VS.skip ?_
      | (refine VS.keepAt 3 [0, 1] ?_; generalize hK : VS _ _ _ = KK; (try simp); (try subst hK); refine VS.region tabOk (id := 3) [] (by kernel_rfl) ?_; generalize hK : VS _ _ _ = KK; simp (maxSteps := 1000000) [hF, dRSp, dBool, dRObs_at hj, hj, h]; (try subst hK); try (refine VS.keep [0, 1, 16] ?_; generalize hK : VS _ _ _ = KK; simp; (try subst hK)))
      | (refine VS.cond ?_; generalize hK1 : VS _ _ _ = KK1; generalize hK2 : VS _ _ _ = KK2; simp (maxSteps := 1000000) [hF, dRSp, dBool, dRObs_at hj, hj, h]; (try subst hK1); (try subst hK2))
    refine ⟨fun h1 => ?_, fun h1 => ?_⟩
    · repeat first
        | refine VS.seq ?_
        | (refine VS.keepAt 4 [] ?_; generalize hK : VS _ _ _ = KK; (try simp); (try subst hK); refine VS.region tabOk (id := 4) [] (by kernel_rfl) ?_; generalize hK : VS _ _ _ = KK; simp (maxSteps := 1000000) [hF]; (try subst hK); try (refine VS.keep [4, 5] ?_; generalize hK : VS _ _ _ = KK; simp; (try subst hK)))
      have h1' : 100 ≤ S.objs.length := by omega
      try refine VS.ret ?_
      repeat first | refine blockN_ret ?_ | refine loopN_ret ?_
      refine endK.of [4, 5] [0] [(0, [.d])] (by simp [hF]) (by simp [covers, mpre]) ?_
      simp [hF, retK, dRSp, dBool, cloneOf, h, h1']
    · have ho := hS.ob _ (List.getElem_mem hj)
      refine VS.lift 0 [.d, .f 2] (by simp (maxSteps := 1000000) [hF]) (by simp (maxSteps := 1000000) [hF]) (by simp [isNode]) (by simp (maxSteps := 1000000) [hF]) ?_
      generalize hK : VS _ _ _ = KK; simp [hF, St.lift, AV.lift, liftPl, stripP, nodeAV]; (try subst hK)
      have hpush := dRObs_push S.objs { S.objs[j] with frozen := false }
      have h1' : ¬ 100 ≤ S.objs.length := by omega
      have hw : IntKind.i64.wrap (S.objs.length : Int) = S.objs.length := IntWalk.i64_in _ (by omega)
      have hnl := ho.names_len
      have hwl := ho.1
      repeat' first
        | refine VS.seq ?_
        | refine VS.skip ?_
        | refine ⟨⟨by omega, by omega⟩, ?_⟩
        | (refine VS.keepAt 5 [0, 1] ?_; generalize hK : VS _ _ _ = KK; (try simp); (try subst hK); refine VS.region tabOk (id := 5) [] (by kernel_rfl) ?_; generalize hK : VS _ _ _ = KK; simp (maxSteps := 1000000) [hF, dRSp, dBool, dRObs_at hj, hj, h, hpush]; (try subst hK); try (refine VS.keep [0, 6] ?_; generalize hK : VS _ _ _ = KK; simp; (try subst hK)))
        | (refine VS.keepAt 6 [0, 6] ?_; generalize hK : VS _ _ _ = KK; (try simp); (try subst hK); refine VS.drawnE tabOk mixedOk (id := 6) 17408 [] [⟨0, 1, 16777216, 5⟩, ⟨0, 1, 33554432, 5⟩, ⟨2, 33554432, 67108864, 5⟩, ⟨4, 67108864, 134217728, 5⟩, ⟨8, 134217728, 268435456, 6⟩, ⟨0, 64, 536870912, 5⟩, ⟨32, 536870912, 1073741824, 6⟩, ⟨0, 0, 2147483648, 4⟩, ⟨0, 64, 4294967296, 5⟩, ⟨256, 4294967296, 8589934592, 6⟩, ⟨640, 10737418240, 17179869184, 0⟩, ⟨0, 0, 34359738368, 4⟩, ⟨0, 64, 68719476736, 5⟩, ⟨4096, 68719476736, 137438953472, 6⟩, ⟨11264, 171798691840, 274877906944, 0⟩, ⟨17472, 293131517952, 549755813888, 5⟩, ⟨32768, 549755813888, 1099511627776, 4⟩, ⟨81936, 1099780063232, 2199023255552, 0⟩, ⟨262143, 16777216, 4398046511104, 5⟩, ⟨524287, 4398046511104, 8796093022208, 5⟩, ⟨786431, 10995116277760, 0, 0⟩] (.take 0 (.take 1 (.take 2 (.take 3 (.take 4 (.take 5 (.take 6 (.take 8 (.take 9 (.take 12 (.take 13 (.fork (.alt 7 (.fork (.alt 10 (.fork (.alt 11 (.fork (.alt 14 (.take 15 (.fork (.alt 16 (.fork (.alt 17 (.take 18 (.take 19 (.fork (.alt 20 (.done) (.nil))))) (.nil))) (.nil)))) (.nil))) (.nil))) (.alt 11 (.fork (.alt 10 (.fork (.alt 14 (.take 15 (.fork (.alt 16 (.fork (.alt 17 (.take 18 (.take 19 (.fork (.alt 20 (.done) (.nil))))) (.nil))) (.nil)))) (.nil))) (.nil))) (.nil)))) (.alt 11 (.fork (.alt 7 (.fork (.alt 10 (.fork (.alt 14 (.take 15 (.fork (.alt 16 (.fork (.alt 17 (.take 18 (.take 19 (.fork (.alt 20 (.done) (.nil))))) (.nil))) (.nil)))) (.nil))) (.nil))) (.nil))) (.nil))))))))))))))) (.run [0, 1, 2, 3, 4, 5, 6, 8, 9, 12, 13] (.both (.run [7] (.both (.chk 10 (.run [10, 11] (.chk 14 (.run [14, 15, 16, 17, 18, 19, 20] (.done))))) (.run [11] (.chk 10 (.run [10] (.chk 14 (.run [14, 15, 16, 17, 18, 19, 20] (.done)))))))) (.run [11, 7] (.chk 10 (.run [10] (.chk 14 (.run [14, 15, 16, 17, 18, 19, 20] (.done)))))))) (by kernel_rfl) (by kernel_rfl) (by kernel_rfl) ?_; generalize hK : VS _ _ _ = KK; simp only [opsVc_run, opsVc_both, opsVc_chk, opsVc_done, opsVc_yes, pick_cons, pick_nil, List.getElem?_cons_zero, List.getElem?_cons_succ]; simp (maxSteps := 1000000) [hF, dRSp, dBool, dRObs_at hj, hj, h, hpush]; (try subst hK); try (refine VS.keep [0] ?_; generalize hK : VS _ _ _ = KK; simp; (try subst hK)))
        | (refine VS.keepAt 7 [0] ?_; generalize hK : VS _ _ _ = KK; (try simp); (try subst hK); refine VS.region tabOk (id := 7) [] (by kernel_rfl) ?_; generalize hK : VS _ _ _ = KK; simp (maxSteps := 1000000) [hF, dRSp, dBool, dRObs_at hj, hj, h, hpush]; (try subst hK); try (refine VS.keep [4, 5] ?_; generalize hK : VS _ _ _ = KK; simp; (try subst hK)))
        | refine And.intro ?_ ?_
      all_goals try refine VS.ret ?_
      all_goals repeat first | refine blockN_ret ?_ | refine loopN_ret ?_
      all_goals refine endK.of [4, 5] [0] [(0, [.d])] (by simp [hF]) (by simp [covers, mpre]) ?_
      all_goals simp [hF, retK, dRSp, dBool, cloneOf, h, h1', obAt_eq hj, hw]

/- (*cabochon/cabochonref20.Space).Delete -/
theorem rdelete_ok (S : Sp) (h0 : 0 < S.shapes.length) {N : Nat} (hS : WF S N) (hN : N < 1000000) (o : Int) (n : ByteArray) : Meets Try.prog 58 [dRSp S] (.cons (.ptr 0 [.d]) (.cons (avInt o) (.cons (.val (.string n)) .nil)))
    fun av X κ => av = two (deleteOf S o n).2 ∧ X = [dRSp (deleteOf S o n).1] ∧ κ = [(0, [.d])] := by
  refine Meets.of_vs tabOk Try.func58 (body := ?_) ?_ (by kernel_rfl) Try.ntmps58 (rs := [.tmp 6, .tmp 7]) (by kernel_rfl) rfl (by simp [AV.len]) (by simp only [envOf]; exact rfl) ?_
  rotate_left
  · rfl
  intro w0 I0 F0 hF
  repeat first
    | refine VS.seq ?_
    | (refine VS.keepAt 0 [0, 1, 2] ?_; generalize hK : VS _ _ _ = KK; (try simp); (try subst hK); refine VS.region tabOk (id := 0) [] (by kernel_rfl) ?_; generalize hK : VS _ _ _ = KK; simp (maxSteps := 1000000) [hF]; (try subst hK); try (refine VS.keep [0, 1, 2] ?_; generalize hK : VS _ _ _ = KK; simp; (try subst hK)))
    | (refine VS.keepAt 1 [0, 1, 2] ?_; generalize hK : VS _ _ _ = KK; (try simp); (try subst hK); refine VS.region tabOk (id := 1) [] (by kernel_rfl) ?_; generalize hK : VS _ _ _ = KK; simp (maxSteps := 1000000) [hF]; (try subst hK); try (refine VS.keep [0, 1, 2, 16] ?_; generalize hK : VS _ _ _ = KK; simp; (try subst hK)))
  refine (object_ok S h0 o).call [(0, [])] (by simp) (by simp (maxSteps := 1000000) [hF, dRSp, dBool]) (by simp (maxSteps := 1000000) [hF, dRSp, dBool]) (by simp (maxSteps := 1000000) [hF, dRSp, dBool]) ?_
  rintro av X κ ⟨rfl, rfl, rfl⟩
  generalize hK : VS _ _ _ = KK; simp (maxSteps := 1000000) [hF, dRSp, dBool]; (try subst hK)
  repeat first
    | (refine VS.cond ?_; generalize hK1 : VS _ _ _ = KK1; generalize hK2 : VS _ _ _ = KK2; simp (maxSteps := 1000000) [hF]; (try subst hK1); (try subst hK2))
  refine ⟨fun h => ?_, fun h => ?_⟩
  · repeat first
      | refine VS.seq ?_
      | (refine VS.keepAt 2 [] ?_; generalize hK : VS _ _ _ = KK; (try simp); (try subst hK); refine VS.region tabOk (id := 2) [] (by kernel_rfl) ?_; generalize hK : VS _ _ _ = KK; simp (maxSteps := 1000000) [hF]; (try subst hK); try (refine VS.keep [6, 7] ?_; generalize hK : VS _ _ _ = KK; simp; (try subst hK)))
    try refine VS.ret ?_
    repeat first | refine blockN_ret ?_ | refine loopN_ret ?_
    refine endK.of [6, 7] [0] [(0, [.d])] (by simp [hF]) (by simp [covers, mpre]) ?_
    simp [hF, retK, dRSp, dBool, deleteOf, ask_no h n true]
  · obtain ⟨j, rfl, hj, _⟩ := hasB_true h
    have ho := hS.ob _ (List.getElem_mem hj)
    have hnl := ho.names_len
    have hwl := ho.1
    have hjl : j < (dRObs S.objs).len := by simpa using hj
    repeat first
      | refine VS.seq ?_
      | refine VS.skip ?_
      | (refine VS.keepAt 3 [0, 1, 2] ?_; generalize hK : VS _ _ _ = KK; (try simp); (try subst hK); refine VS.region tabOk (id := 3) [] (by kernel_rfl) ?_; generalize hK : VS _ _ _ = KK; simp (maxSteps := 1000000) [hF]; (try subst hK); try (refine VS.keep [0, 1, 2, 19] ?_; generalize hK : VS _ _ _ = KK; simp; (try subst hK)))
    refine (rnamed_ok n).call [] (by simp) (by simp (maxSteps := 1000000) [hF, dRSp, dBool]) (by simp (maxSteps := 1000000) [hF, dRSp, dBool]) (by simp (maxSteps := 1000000) [hF, dRSp, dBool]) ?_
    rintro av X κ ⟨rfl, rfl, rfl⟩
    generalize hK : VS _ _ _ = KK; simp (maxSteps := 1000000) [hF, dRSp, dBool]; (try subst hK)
    repeat first
      | (refine VS.cond ?_; generalize hK1 : VS _ _ _ = KK1; generalize hK2 : VS _ _ _ = KK2; simp (maxSteps := 1000000) [hF]; (try subst hK1); (try subst hK2))
    refine ⟨fun hn => ?_, fun hn => ?_⟩
    · repeat first
        | refine VS.seq ?_
        | (refine VS.keepAt 4 [] ?_; generalize hK : VS _ _ _ = KK; (try simp); (try subst hK); refine VS.region tabOk (id := 4) [] (by kernel_rfl) ?_; generalize hK : VS _ _ _ = KK; simp (maxSteps := 1000000) [hF]; (try subst hK); try (refine VS.keep [6, 7] ?_; generalize hK : VS _ _ _ = KK; simp; (try subst hK)))
      try refine VS.ret ?_
      repeat first | refine blockN_ret ?_ | refine loopN_ret ?_
      refine endK.of [6, 7] [0] [(0, [.d])] (by simp [hF]) (by simp [covers, mpre]) ?_
      simp [hF, retK, dRSp, dBool, deleteOf, ask_name h hn true]
    · repeat first
        | refine VS.seq ?_
        | refine VS.skip ?_
        | (refine VS.keepAt 5 [0, 1, 2] ?_; generalize hK : VS _ _ _ = KK; (try simp); (try subst hK); refine VS.region tabOk (id := 5) [] (by kernel_rfl) ?_; generalize hK : VS _ _ _ = KK; simp (maxSteps := 1000000) [hF, dRSp, dBool, dRObs_at hj, hj]; (try subst hK); try (refine VS.keep [0, 2, 8] ?_; generalize hK : VS _ _ _ = KK; simp; (try subst hK)))
        | (refine VS.keepAt 6 [0, 2, 8] ?_; generalize hK : VS _ _ _ = KK; (try simp); (try subst hK); refine VS.region tabOk (id := 6) [] (by kernel_rfl) ?_; generalize hK : VS _ _ _ = KK; simp (maxSteps := 1000000) [hF, dRSp, dBool, dRObs_at hj, hj]; (try subst hK); try (refine VS.keep [0, 2, 8, 29] ?_; generalize hK : VS _ _ _ = KK; simp; (try subst hK)))
        | (refine VS.cond ?_; generalize hK1 : VS _ _ _ = KK1; generalize hK2 : VS _ _ _ = KK2; simp (maxSteps := 1000000) [hF, dRSp, dBool, dRObs_at hj, hj]; (try subst hK1); (try subst hK2))
      refine ⟨fun hf => ?_, fun hf => ?_⟩
      · repeat first
          | refine VS.seq ?_
          | (refine VS.keepAt 7 [] ?_; generalize hK : VS _ _ _ = KK; (try simp); (try subst hK); refine VS.region tabOk (id := 7) [] (by kernel_rfl) ?_; generalize hK : VS _ _ _ = KK; simp (maxSteps := 1000000) [hF]; (try subst hK); try (refine VS.keep [6, 7] ?_; generalize hK : VS _ _ _ = KK; simp; (try subst hK)))
        have he : askOf S j n true = 13 := by simp [ask_set hj h hn, hf]
        try refine VS.ret ?_
        repeat first | refine blockN_ret ?_ | refine loopN_ret ?_
        refine endK.of [6, 7] [0] [(0, [.d])] (by simp [hF]) (by simp [covers, mpre]) ?_
        simp [hF, retK, dRSp, dBool, deleteOf, he]
      · have he : askOf S j n true = 0 := by simp [ask_set hj h hn, hf]
        repeat first
          | refine VS.seq ?_
          | refine VS.skip ?_
          | (refine VS.keepAt 8 [0, 2, 8] ?_; generalize hK : VS _ _ _ = KK; (try simp); (try subst hK); refine VS.region tabOk (id := 8) [] (by kernel_rfl) ?_; generalize hK : VS _ _ _ = KK; simp (maxSteps := 1000000) [hF, dRSp, dBool, dRObs_at hj, hj]; (try subst hK); try (refine VS.keep [0, 8, 9] ?_; generalize hK : VS _ _ _ = KK; simp; (try subst hK)))
        refine (place_ok true false S.objs[j].names n (by omega)).call [(0, [.d, .f 2, .i j, .f 1])] (by simp) (by simp (maxSteps := 1000000) [hF, dRSp, dBool, dRObs_at hj, hj, setN_of (dRObs_at hj)]) (by simp (maxSteps := 1000000) [hF, dRSp, dBool, dRObs_at hj, hj, setN_of (dRObs_at hj)]) (by simp (maxSteps := 1000000) [hF, dRSp, dBool, dRObs_at hj, hj, setN_of (dRObs_at hj)]) ?_
        rintro av X κ ⟨rfl, rfl, rfl⟩
        generalize hK : VS _ _ _ = KK; simp (maxSteps := 1000000) [hF, dRSp, dBool, dRObs_at hj, hj, setN_of (dRObs_at hj)]; (try subst hK)
        repeat first
          | refine VS.seq ?_
          | (refine VS.keepAt 9 [0, 8, 9] ?_; generalize hK : VS _ _ _ = KK; (try simp); (try subst hK); refine VS.region tabOk (id := 9) [] (by kernel_rfl) ?_; generalize hK : VS _ _ _ = KK; simp (maxSteps := 1000000) [hF]; (try subst hK); try (refine VS.keep [0, 8, 9, 37] ?_; generalize hK : VS _ _ _ = KK; simp; (try subst hK)))
          | (refine VS.cond ?_; generalize hK1 : VS _ _ _ = KK1; generalize hK2 : VS _ _ _ = KK2; simp (maxSteps := 1000000) [hF]; (try subst hK1); (try subst hK2))
        refine ⟨fun hp => ?_, fun hp => ?_⟩
        · repeat first
            | refine VS.seq ?_
            | (refine VS.keepAt 10 [] ?_; generalize hK : VS _ _ _ = KK; (try simp); (try subst hK); refine VS.region tabOk (id := 10) [] (by kernel_rfl) ?_; generalize hK : VS _ _ _ = KK; simp (maxSteps := 1000000) [hF]; (try subst hK); try (refine VS.keep [6, 7] ?_; generalize hK : VS _ _ _ = KK; simp; (try subst hK)))
          try refine VS.ret ?_
          repeat first | refine blockN_ret ?_ | refine loopN_ret ?_
          refine endK.of [6, 7] [0] [(0, [.d])] (by simp [hF]) (by simp [covers, mpre]) ?_
          simp [hF, retK, dRSp, dBool, deleteOf, he, obAt_eq hj, hp]
        · obtain ⟨hlt, hlt'⟩ := posIn_words hwl hp
          have hnth := dInts_nth hlt
          have hneg : ¬ posIn n S.objs[j].names < 0 := by omega
          repeat first
            | refine VS.seq ?_
            | refine VS.skip ?_
            | (refine VS.keepAt 11 [0, 8, 9] ?_; generalize hK : VS _ _ _ = KK; (try simp); (try subst hK); refine VS.region tabOk (id := 11) [] (by kernel_rfl) ?_; generalize hK : VS _ _ _ = KK; simp (maxSteps := 1000000) [hF, dRSp, dBool, dRObs_at hj, hj, hp, hlt, hlt', hnth]; (try subst hK); try (refine VS.keep [0, 8, 9, 10] ?_; generalize hK : VS _ _ _ = KK; simp; (try subst hK)))
          refine VS.lift 0 [.d, .f 2, .i j, .f 1] (by simp (maxSteps := 1000000) [hF, dRObs_at hj, hj]) (by simp (maxSteps := 1000000) [hF, dRObs_at hj, hj]) (by simp [isNode, dRObs_at hj, hj]) (by simp (maxSteps := 1000000) [hF, dRObs_at hj, hj]) ?_
          generalize hK : VS _ _ _ = KK; simp [hF, St.lift, AV.lift, liftPl, stripP, nodeAV, dRObs_at hj, hj]; (try subst hK)
          refine VS.lift 0 [.d, .f 2, .i j, .f 2] (by simp (maxSteps := 1000000) [hF, dRObs_at hj, hj, T.nth_setN_same _ hjl]) (by simp (maxSteps := 1000000) [hF, dRObs_at hj, hj, T.nth_setN_same _ hjl]) (by simp [isNode, dRObs_at hj, hj, T.nth_setN_same _ hjl]) (by simp (maxSteps := 1000000) [hF, dRObs_at hj, hj, T.nth_setN_same _ hjl]) ?_
          generalize hK : VS _ _ _ = KK; simp [hF, St.lift, AV.lift, liftPl, stripP, nodeAV, dRObs_at hj, hj, T.nth_setN_same _ hjl]; (try subst hK)
          repeat first
            | refine VS.seq ?_
            | (refine VS.keepAt 12 [0, 8, 9, 10] ?_; generalize hK : VS _ _ _ = KK; (try simp); (try subst hK); refine VS.region tabOk (id := 12) [] (by kernel_rfl) ?_; generalize hK : VS _ _ _ = KK; simp (maxSteps := 1000000) [hF, dRSp, dBool, dRObs_at hj, hj, T.nth_setN_same _ hjl]; (try subst hK); try (refine VS.keep [0, 8, 9, 10, 11] ?_; generalize hK : VS _ _ _ = KK; simp; (try subst hK)))
            | (refine VS.keepAt 13 [0, 8, 9, 10, 11] ?_; generalize hK : VS _ _ _ = KK; (try simp); (try subst hK); refine VS.region tabOk (id := 13) [] (by kernel_rfl) ?_; generalize hK : VS _ _ _ = KK; simp (maxSteps := 1000000) [hF, dRSp, dBool, dRObs_at hj, hj, T.nth_setN_same _ hjl]; (try subst hK); try (refine VS.keep [0, 8, 9, 10, 11] ?_; generalize hK : VS _ _ _ = KK; simp; (try subst hK)))
            | (refine VS.keepAt 14 [0, 8, 9, 10, 11] ?_; generalize hK : VS _ _ _ = KK; (try simp); (try subst hK); refine VS.region tabOk (id := 14) [] (by kernel_rfl) ?_; generalize hK : VS _ _ _ = KK; simp (maxSteps := 1000000) [hF, dRSp, dBool, dRObs_at hj, hj, T.nth_setN_same _ hjl]; (try subst hK); try (refine VS.keep [0, 8, 9, 10, 11] ?_; generalize hK : VS _ _ _ = KK; simp; (try subst hK)))
            | (refine VS.keepAt 15 [0, 8, 9, 10, 11] ?_; generalize hK : VS _ _ _ = KK; (try simp); (try subst hK); refine VS.region tabOk (id := 15) [] (by kernel_rfl) ?_; generalize hK : VS _ _ _ = KK; simp (maxSteps := 1000000) [hF, dRSp, dBool, dRObs_at hj, hj, T.nth_setN_same _ hjl]; (try subst hK); try (refine VS.keep [0, 8, 9, 10, 11, 58] ?_; generalize hK : VS _ _ _ = KK; simp; (try subst hK)))
            | (refine VS.cond ?_; generalize hK1 : VS _ _ _ = KK1; generalize hK2 : VS _ _ _ = KK2; simp (maxSteps := 1000000) [hF, dRSp, dBool, dRObs_at hj, hj, T.nth_setN_same _ hjl]; (try subst hK1); (try subst hK2))
          have hpos3 : S.objs[j].words.getD (posIn n S.objs[j].names).toNat 0 = S.objs[j].words[(posIn n S.objs[j].names).toNat] := by simp [hlt]
          generalize S.objs[j].words[(posIn n S.objs[j].names).toNat] = wd at *
          refine ⟨fun hc => ?_, fun hc => ?_⟩
          all_goals
            refine VS.pick [0, 8, 9, 10, 11] [0, 3] (by simp [hF]) ?_
            generalize hK : VS _ _ _ = KK; simp [hF]; (try subst hK)
            repeat first
              | refine VS.seq ?_
              | refine VS.skip ?_
              | refine VS.block ?_
              | (refine VS.keepAt 16 [0, 8, 9, 10, 11] ?_; generalize hK : VS _ _ _ = KK; (try simp); (try subst hK); refine VS.region tabOk (id := 16) [] (by kernel_rfl) ?_; generalize hK : VS _ _ _ = KK; simp (maxSteps := 1000000) [hF, dRSp, dBool, dRObs_at hj, hj, T.nth_setN_same _ hjl]; (try subst hK); try (refine VS.keep [0, 8, 9, 10, 11] ?_; generalize hK : VS _ _ _ = KK; simp; (try subst hK)))
              | (refine VS.keepAt 17 [0, 8, 9, 10, 11] ?_; generalize hK : VS _ _ _ = KK; (try simp); (try subst hK); refine VS.region tabOk (id := 17) [] (by kernel_rfl) ?_; generalize hK : VS _ _ _ = KK; simp (maxSteps := 1000000) [hF, dRSp, dBool, dRObs_at hj, hj, T.nth_setN_same _ hjl]; (try subst hK); try (refine VS.keep [0, 8, 9, 10, 11, 12] ?_; generalize hK : VS _ _ _ = KK; simp; (try subst hK)))
            refine VS.widen [(0, [.d])] (by simp [covers, mpre]) ?_
            refine VS.rounds (fun m st => ∃ (k : Nat) (Sk : Sp), k + m = S.objs[j].names.length ∧
              RefillAt (setOb S j ⟨if S.objs[j].shape = -1 then -1 else 0, [], [], S.objs[j].frozen⟩) j (posIn n S.objs[j].names).toNat S.objs[j].names S.objs[j].words k Sk ∧
              st = ⟨[(0, .ptr 0 [.d]), (8, .ptr 0 [.d, .f 2, .i j]), (9, avInt (posIn n S.objs[j].names)), (10, avInt wd), (11, .ptr 1 [.d]), (12, avInt k)],
                [dRSp Sk, .box true () (dROb S.objs[j])], [(0, [.d])], []⟩) ⟨S.objs[j].names.length, 0, setOb S j ⟨if S.objs[j].shape = -1 then -1 else 0, [], [], S.objs[j].frozen⟩, by simp, ?_, ?_⟩ ?_
            · refine ⟨hS.sh, by simpa [setOb] using hj, ?_, by simp⟩
              simp only [setOb, Int.toNat_natCast, List.getElem_set_self]
              refine ⟨rfl, Nat.le_refl _, ?_⟩
              obtain ⟨_, _, hd⟩ := ho
              by_cases hcc : S.objs[j].shape = -1
              · simp [hcc]
              · obtain ⟨k, hk, _⟩ := hd.resolve_left hcc
                refine .inr ⟨0, by omega, by simp [hcc], ?_⟩
                rw [hS.sh.root (by omega)]
            · have e1 := dRObs_set S.objs j ⟨if S.objs[j].shape = -1 then -1 else 0, [], [], S.objs[j].frozen⟩
              have hcm : S.objs[j].shape < 0 → S.objs[j].shape = -1 := fun h => by
                rcases ho.2.2 with h' | ⟨k, _, h', _⟩
                · exact h'
                · omega
              have hcn : 0 ≤ S.objs[j].shape → ¬ S.objs[j].shape = -1 := fun h => by omega
              first
                | (simp [hcn hc, dStrs_nil, dInts_nil] at e1; simp [dRSp, setOb, hcn hc, e1, dROb, dInt, dBool])
                | (simp [hcm hc, dStrs_nil, dInts_nil] at e1; simp [dRSp, setOb, hcm hc, e1, dROb, dInt, dBool])
            rintro m st ⟨k, Sk, hkm, hR, rfl⟩
            repeat first
              | refine VS.seq ?_
              | (refine VS.keepAt 18 [0, 8, 9, 10, 11, 12] ?_; generalize hK : VS _ _ _ = KK; (try simp); (try subst hK); refine VS.region tabOk (id := 18) [] (by kernel_rfl) ?_; generalize hK : VS _ _ _ = KK; simp (maxSteps := 1000000) [hF, dROb, dInt, dBool]; (try subst hK); try (refine VS.keep [0, 8, 9, 10, 11, 12, 66] ?_; generalize hK : VS _ _ _ = KK; simp; (try subst hK)))
              | (refine VS.cond ?_; generalize hK1 : VS _ _ _ = KK1; generalize hK2 : VS _ _ _ = KK2; simp (maxSteps := 1000000) [hF, dROb, dInt, dBool]; (try subst hK1); (try subst hK2))
            refine ⟨fun hlt1 => ?_, fun hge => ?_⟩
            · have hk1 : k < S.objs[j].names.length := by omega
              have hk2 : k < S.objs[j].words.length := by omega
              have hn1 := dStrs_nth hk1
              have hn2 := dInts_nth hk2
              repeat first
                | refine VS.seq ?_
                | refine VS.skip ?_
                | refine VS.block ?_
                | (refine VS.keepAt 20 [0, 8, 9, 10, 11, 12] ?_; generalize hK : VS _ _ _ = KK; (try simp); (try subst hK); refine VS.region tabOk (id := 20) [] (by kernel_rfl) ?_; generalize hK : VS _ _ _ = KK; simp (maxSteps := 1000000) [hF, dROb, dInt, dBool]; (try subst hK); try (refine VS.keep [0, 8, 9, 10, 11, 12, 71] ?_; generalize hK : VS _ _ _ = KK; simp; (try subst hK)))
                | (refine VS.cond ?_; generalize hK1 : VS _ _ _ = KK1; generalize hK2 : VS _ _ _ = KK2; simp (maxSteps := 1000000) [hF, dROb, dInt, dBool]; (try subst hK1); (try subst hK2))
              refine ⟨fun hne => ?_, fun heq => ?_⟩
              · have hki : ¬ k = (posIn n S.objs[j].names).toNat := by omega
                repeat first
                  | (refine VS.keepAt 21 [0, 8, 9, 10, 11, 12] ?_; generalize hK : VS _ _ _ = KK; (try simp); (try subst hK); refine VS.drawn tabOk mixedOk (id := 21) [] [⟨0, 1, 4722366482869645213696, 5⟩, ⟨0, 256, 9444732965739290427392, 5⟩, ⟨0, 2048, 18889465931478580854784, 5⟩, ⟨4, 18889465931478580854784, 37778931862957161709568, 6⟩, ⟨0, 4096, 75557863725914323419136, 5⟩, ⟨24, 113336795588871485128704, 151115727451828646838272, 5⟩, ⟨32, 151115727451828646838272, 302231454903657293676544, 6⟩, ⟨0, 2048, 604462909807314587353088, 5⟩, ⟨128, 604462909807314587353088, 1208925819614629174706176, 6⟩, ⟨0, 4096, 2417851639229258349412352, 5⟩, ⟨768, 3626777458843887524118528, 4835703278458516698824704, 5⟩, ⟨1024, 4835703278458516698824704, 9671406556917033397649408, 6⟩, ⟨2115, 9987805111269299626967040, 19342813113834066795298816, 0⟩] (.take 0 (.take 1 (.take 2 (.take 3 (.take 4 (.take 5 (.take 6 (.take 7 (.take 8 (.take 9 (.take 10 (.take 11 (.fork (.alt 12 (.done) (.nil))))))))))))))) (.run [0, 1, 2, 3, 4, 5, 6, 7, 8, 9, 10, 11, 12] (.done)) (by kernel_rfl) (by kernel_rfl) (by kernel_rfl) ?_; generalize hK : VS _ _ _ = KK; simp only [opsVc_run, opsVc_both, opsVc_chk, opsVc_done, opsVc_yes, pick_cons, pick_nil, List.getElem?_cons_zero, List.getElem?_cons_succ]; simp (maxSteps := 1000000) [hF, dROb, dInt, dBool, hk1, hk2, hn1, hn2, hlt1]; (try subst hK); try (refine VS.keep [0, 8, 9, 10, 11, 12] ?_; generalize hK : VS _ _ _ = KK; simp; (try subst hK)))
                refine (put_ok Sk hR.sh j hR.hj hR.ob (by omega) S.objs[j].names[k] S.objs[j].words[k]).call [(0, [])] (by simp) (by simp (maxSteps := 1000000) [hF, dRSp]) (by simp (maxSteps := 1000000) [hF, dRSp]) (by simp (maxSteps := 1000000) [hF, dRSp]) ?_
                rintro av X κ ⟨rfl, rfl, rfl⟩
                generalize hK : VS _ _ _ = KK; simp (maxSteps := 1000000) [hF, dRSp]; (try subst hK)
                repeat first
                  | refine VS.nil ?_
                  | refine blockN_normal ?_
                refine VS.widen [(0, [.d])] (by simp [covers, mpre]) ?_
                repeat first
                  | refine VS.nil ?_
                  | refine loopN_normal ?_
                  | (refine VS.keepAt 19 [0, 8, 9, 10, 11, 12] ?_; generalize hK : VS _ _ _ = KK; (try simp); (try subst hK); refine VS.region tabOk (id := 19) [] (by kernel_rfl) ?_; generalize hK : VS _ _ _ = KK; simp (maxSteps := 1000000) [hF]; (try subst hK); try (refine VS.keep [0, 8, 9, 10, 11, 12] ?_; generalize hK : VS _ _ _ = KK; simp; (try subst hK)))
                refine nextK.of [0, 8, 9, 10, 11, 12] [0, 1] (m - 1) (by omega) (by simp [hF]) ?_
                refine ⟨k + 1, _, by omega, hR.add hk1 hk2 hki, ?_⟩
                simp [dRSp, dROb, dInt, dBool]
                exact IntWalk.i64_in _ (by omega)
              · have hki : k = (posIn n S.objs[j].names).toNat := by omega
                repeat first
                  | refine VS.skip ?_
                  | refine VS.nil ?_
                  | refine blockN_normal ?_
                  | refine loopN_normal ?_
                  | (refine VS.keepAt 19 [0, 8, 9, 10, 11, 12] ?_; generalize hK : VS _ _ _ = KK; (try simp); (try subst hK); refine VS.region tabOk (id := 19) [] (by kernel_rfl) ?_; generalize hK : VS _ _ _ = KK; simp (maxSteps := 1000000) [hF]; (try subst hK); try (refine VS.keep [0, 8, 9, 10, 11, 12] ?_; generalize hK : VS _ _ _ = KK; simp; (try subst hK)))
                refine nextK.of [0, 8, 9, 10, 11, 12] [0, 1] (m - 1) (by omega) (by simp [hF]) ?_
                refine ⟨k + 1, Sk, by omega, hR.skip hk1 hk2 hki, ?_⟩
                simp [dROb, dInt, dBool]
                exact IntWalk.i64_in _ (by omega)
            · have hk1 : k = S.objs[j].names.length := by omega
              have hend := hR.eq.trans (refill_end _ _ _ _ _ _ (by simp [hwl]) (by simp [hk1]))
              repeat first
                | refine VS.seq ?_
                | refine VS.exit ?_
                | (refine VS.keepAt 22 [10] ?_; generalize hK : VS _ _ _ = KK; (try simp); (try subst hK); refine VS.region tabOk (id := 22) [] (by kernel_rfl) ?_; generalize hK : VS _ _ _ = KK; simp (maxSteps := 1000000) [hF]; (try subst hK); try (refine VS.keep [6, 7] ?_; generalize hK : VS _ _ _ = KK; simp; (try subst hK)))
              try refine VS.ret ?_
              repeat first | refine blockN_ret ?_ | refine loopN_ret ?_
              refine endK.of [6, 7] [0] [(0, [.d])] (by simp [hF]) (by simp [covers, mpre]) ?_
              simp [hF, retK, deleteOf, he, obAt_eq hj, hneg, hlt, hend]
              simpa [hlt] using hpos3.symm
end Go.Proofs.Ythcndkpkkaphoaa

/- The reference's deeds; asking both. -/
namespace Go.Proofs.Ythcndkpkkaphoaa
set_option linter.all false
open Go.Vc Go.Proofs
set_option linter.unusedSimpArgs false
set_option maxRecDepth 100000
set_option maxHeartbeats 4000000
attribute [local irreducible] CallW EqK

/- cabochon/cabochonlaw20.told -/
theorem told_ok (S : Sp) (hp : 0 < S.shapes.length) {N : Nat} (hS : WF S N) (hN : N < 1000000) (d : Deed) : Meets Try.prog 36 [dRSp S] (.cons (.ptr 0 [.d]) (.cons (avDeed d) .nil))
    fun av X κ => av = two (doOf S d).2 ∧ X = [dRSp (doOf S d).1] ∧ κ = [(0, [.d])] := by
  unfold avDeed
  refine Meets.of_vs tabOk Try.func36 (body := ?_) ?_ (by kernel_rfl) Try.ntmps36 (rs := [.tmp 4, .tmp 5]) (by kernel_rfl) rfl (by simp [AV.len]) (by simp only [envOf]; exact rfl) ?_
  rotate_left
  · rfl
  intro w0 I0 F0 hF
  repeat first
    | refine VS.seq ?_
    | refine VS.block ?_
    | (refine VS.keepAt 0 [0, 1] ?_; generalize hK : VS _ _ _ = KK; (try simp); (try subst hK); refine VS.region tabOk (id := 0) [] (by kernel_rfl) ?_; generalize hK : VS _ _ _ = KK; simp (maxSteps := 1000000) [hF]; (try subst hK); try (refine VS.keep [0, 3] ?_; generalize hK : VS _ _ _ = KK; simp; (try subst hK)))
    | (refine VS.keepAt 1 [0, 3] ?_; generalize hK : VS _ _ _ = KK; (try simp); (try subst hK); refine VS.region tabOk (id := 1) [] (by kernel_rfl) ?_; generalize hK : VS _ _ _ = KK; simp (maxSteps := 1000000) [hF]; (try subst hK); try (refine VS.keep [0, 3, 7] ?_; generalize hK : VS _ _ _ = KK; simp; (try subst hK)))
    | (refine VS.keepAt 2 [0, 3, 7] ?_; generalize hK : VS _ _ _ = KK; (try simp); (try subst hK); refine VS.region tabOk (id := 2) [] (by kernel_rfl) ?_; generalize hK : VS _ _ _ = KK; simp (maxSteps := 1000000) [hF]; (try subst hK); try (refine VS.keep [0, 3, 7, 8] ?_; generalize hK : VS _ _ _ = KK; simp; (try subst hK)))
    | (refine VS.cond ?_; generalize hK1 : VS _ _ _ = KK1; generalize hK2 : VS _ _ _ = KK2; simp (maxSteps := 1000000) [hF]; (try subst hK1); (try subst hK2))
  refine ⟨fun h0 => ?_, fun h0 => ?_⟩
  · repeat first
      | refine VS.seq ?_
      | (refine VS.keepAt 3 [0] ?_; generalize hK : VS _ _ _ = KK; (try simp); (try subst hK); refine VS.region tabOk (id := 3) [] (by kernel_rfl) ?_; generalize hK : VS _ _ _ = KK; simp (maxSteps := 1000000) [hF]; (try subst hK); try (refine VS.keep [4, 5] ?_; generalize hK : VS _ _ _ = KK; simp; (try subst hK)))
    refine (rmake_ok S hp).call [(0, [])] (by simp) (by simp (maxSteps := 1000000) [hF, dRSp, dBool]) (by simp (maxSteps := 1000000) [hF, dRSp, dBool]) (by simp (maxSteps := 1000000) [hF, dRSp, dBool]) ?_
    rintro av X κ ⟨rfl, rfl, rfl⟩
    generalize hK : VS _ _ _ = KK; simp (maxSteps := 1000000) [hF, dRSp, dBool]; (try subst hK)
    try refine VS.ret ?_
    repeat first | refine blockN_ret ?_ | refine loopN_ret ?_
    refine endK.of [4, 5] [0] [(0, [.d])] (by simp [hF]) (by simp [covers, mpre]) ?_
    simp [hF, retK, dRSp, dBool, doOf, h0]
  repeat first
    | refine VS.seq ?_
    | (refine VS.keepAt 4 [0, 3, 7] ?_; generalize hK : VS _ _ _ = KK; (try simp); (try subst hK); refine VS.region tabOk (id := 4) [] (by kernel_rfl) ?_; generalize hK : VS _ _ _ = KK; simp (maxSteps := 1000000) [hF]; (try subst hK); try (refine VS.keep [0, 3, 7, 14] ?_; generalize hK : VS _ _ _ = KK; simp; (try subst hK)))
    | (refine VS.cond ?_; generalize hK1 : VS _ _ _ = KK1; generalize hK2 : VS _ _ _ = KK2; simp (maxSteps := 1000000) [hF]; (try subst hK1); (try subst hK2))
  refine ⟨fun h1 => ?_, fun h1 => ?_⟩
  · repeat first
      | refine VS.seq ?_
      | (refine VS.keepAt 5 [0, 3] ?_; generalize hK : VS _ _ _ = KK; (try simp); (try subst hK); refine VS.region tabOk (id := 5) [] (by kernel_rfl) ?_; generalize hK : VS _ _ _ = KK; simp (maxSteps := 1000000) [hF]; (try subst hK); try (refine VS.keep [4, 5] ?_; generalize hK : VS _ _ _ = KK; simp; (try subst hK)))
    refine (rset_ok S hp hS hN d.obj d.name d.word).call [(0, [])] (by simp) (by simp (maxSteps := 1000000) [hF, dRSp, dBool]) (by simp (maxSteps := 1000000) [hF, dRSp, dBool]) (by simp (maxSteps := 1000000) [hF, dRSp, dBool]) ?_
    rintro av X κ ⟨rfl, rfl, rfl⟩
    generalize hK : VS _ _ _ = KK; simp (maxSteps := 1000000) [hF, dRSp, dBool]; (try subst hK)
    try refine VS.ret ?_
    repeat first | refine blockN_ret ?_ | refine loopN_ret ?_
    refine endK.of [4, 5] [0] [(0, [.d])] (by simp [hF]) (by simp [covers, mpre]) ?_
    simp [hF, retK, dRSp, dBool, doOf, h0, h1]
  repeat first
    | refine VS.seq ?_
    | (refine VS.keepAt 6 [0, 3, 7] ?_; generalize hK : VS _ _ _ = KK; (try simp); (try subst hK); refine VS.region tabOk (id := 6) [] (by kernel_rfl) ?_; generalize hK : VS _ _ _ = KK; simp (maxSteps := 1000000) [hF]; (try subst hK); try (refine VS.keep [0, 3, 7, 24] ?_; generalize hK : VS _ _ _ = KK; simp; (try subst hK)))
    | (refine VS.cond ?_; generalize hK1 : VS _ _ _ = KK1; generalize hK2 : VS _ _ _ = KK2; simp (maxSteps := 1000000) [hF]; (try subst hK1); (try subst hK2))
  refine ⟨fun h2 => ?_, fun h2 => ?_⟩
  · repeat first
      | refine VS.seq ?_
      | (refine VS.keepAt 7 [0, 3] ?_; generalize hK : VS _ _ _ = KK; (try simp); (try subst hK); refine VS.region tabOk (id := 7) [] (by kernel_rfl) ?_; generalize hK : VS _ _ _ = KK; simp (maxSteps := 1000000) [hF]; (try subst hK); try (refine VS.keep [4, 5] ?_; generalize hK : VS _ _ _ = KK; simp; (try subst hK)))
    refine (rget_ok S hp hS (by omega) d.obj d.name).call [(0, [])] (by simp) (by simp (maxSteps := 1000000) [hF, dRSp, dBool]) (by simp (maxSteps := 1000000) [hF, dRSp, dBool]) (by simp (maxSteps := 1000000) [hF, dRSp, dBool]) ?_
    rintro av X κ ⟨rfl, rfl, rfl⟩
    generalize hK : VS _ _ _ = KK; simp (maxSteps := 1000000) [hF, dRSp, dBool]; (try subst hK)
    try refine VS.ret ?_
    repeat first | refine blockN_ret ?_ | refine loopN_ret ?_
    refine endK.of [4, 5] [0] [(0, [.d])] (by simp [hF]) (by simp [covers, mpre]) ?_
    simp [hF, retK, dRSp, dBool, doOf, h0, h1, h2]
  repeat first
    | refine VS.seq ?_
    | (refine VS.keepAt 8 [0, 3, 7] ?_; generalize hK : VS _ _ _ = KK; (try simp); (try subst hK); refine VS.region tabOk (id := 8) [] (by kernel_rfl) ?_; generalize hK : VS _ _ _ = KK; simp (maxSteps := 1000000) [hF]; (try subst hK); try (refine VS.keep [0, 3, 7, 34] ?_; generalize hK : VS _ _ _ = KK; simp; (try subst hK)))
    | (refine VS.cond ?_; generalize hK1 : VS _ _ _ = KK1; generalize hK2 : VS _ _ _ = KK2; simp (maxSteps := 1000000) [hF]; (try subst hK1); (try subst hK2))
  refine ⟨fun h3 => ?_, fun h3 => ?_⟩
  · repeat first
      | refine VS.seq ?_
      | (refine VS.keepAt 9 [0, 3] ?_; generalize hK : VS _ _ _ = KK; (try simp); (try subst hK); refine VS.region tabOk (id := 9) [] (by kernel_rfl) ?_; generalize hK : VS _ _ _ = KK; simp (maxSteps := 1000000) [hF]; (try subst hK); try (refine VS.keep [4, 5] ?_; generalize hK : VS _ _ _ = KK; simp; (try subst hK)))
    refine (rdelete_ok S hp hS hN d.obj d.name).call [(0, [])] (by simp) (by simp (maxSteps := 1000000) [hF, dRSp, dBool]) (by simp (maxSteps := 1000000) [hF, dRSp, dBool]) (by simp (maxSteps := 1000000) [hF, dRSp, dBool]) ?_
    rintro av X κ ⟨rfl, rfl, rfl⟩
    generalize hK : VS _ _ _ = KK; simp (maxSteps := 1000000) [hF, dRSp, dBool]; (try subst hK)
    try refine VS.ret ?_
    repeat first | refine blockN_ret ?_ | refine loopN_ret ?_
    refine endK.of [4, 5] [0] [(0, [.d])] (by simp [hF]) (by simp [covers, mpre]) ?_
    simp [hF, retK, dRSp, dBool, doOf, h0, h1, h2, h3]
  repeat first
    | refine VS.seq ?_
    | (refine VS.keepAt 10 [0, 3, 7] ?_; generalize hK : VS _ _ _ = KK; (try simp); (try subst hK); refine VS.region tabOk (id := 10) [] (by kernel_rfl) ?_; generalize hK : VS _ _ _ = KK; simp (maxSteps := 1000000) [hF]; (try subst hK); try (refine VS.keep [0, 3, 7, 44] ?_; generalize hK : VS _ _ _ = KK; simp; (try subst hK)))
    | (refine VS.cond ?_; generalize hK1 : VS _ _ _ = KK1; generalize hK2 : VS _ _ _ = KK2; simp (maxSteps := 1000000) [hF]; (try subst hK1); (try subst hK2))
  refine ⟨fun h4 => ?_, fun h4 => ?_⟩
  · repeat first
      | refine VS.seq ?_
      | (refine VS.keepAt 11 [0, 3] ?_; generalize hK : VS _ _ _ = KK; (try simp); (try subst hK); refine VS.region tabOk (id := 11) [] (by kernel_rfl) ?_; generalize hK : VS _ _ _ = KK; simp (maxSteps := 1000000) [hF]; (try subst hK); try (refine VS.keep [4, 5] ?_; generalize hK : VS _ _ _ = KK; simp; (try subst hK)))
    refine (rfreeze_ok S hp d.obj).call [(0, [])] (by simp) (by simp (maxSteps := 1000000) [hF, dRSp, dBool]) (by simp (maxSteps := 1000000) [hF, dRSp, dBool]) (by simp (maxSteps := 1000000) [hF, dRSp, dBool]) ?_
    rintro av X κ ⟨rfl, rfl, rfl⟩
    generalize hK : VS _ _ _ = KK; simp (maxSteps := 1000000) [hF, dRSp, dBool]; (try subst hK)
    try refine VS.ret ?_
    repeat first | refine blockN_ret ?_ | refine loopN_ret ?_
    refine endK.of [4, 5] [0] [(0, [.d])] (by simp [hF]) (by simp [covers, mpre]) ?_
    simp [hF, retK, dRSp, dBool, doOf, h0, h1, h2, h3, h4]
  repeat first
    | refine VS.seq ?_
    | (refine VS.keepAt 12 [0, 3, 7] ?_; generalize hK : VS _ _ _ = KK; (try simp); (try subst hK); refine VS.region tabOk (id := 12) [] (by kernel_rfl) ?_; generalize hK : VS _ _ _ = KK; simp (maxSteps := 1000000) [hF]; (try subst hK); try (refine VS.keep [0, 3, 50] ?_; generalize hK : VS _ _ _ = KK; simp; (try subst hK)))
    | (refine VS.cond ?_; generalize hK1 : VS _ _ _ = KK1; generalize hK2 : VS _ _ _ = KK2; simp (maxSteps := 1000000) [hF]; (try subst hK1); (try subst hK2))
  refine ⟨fun h5 => ?_, fun h5 => ?_⟩
  · repeat first
      | refine VS.seq ?_
      | (refine VS.keepAt 13 [0, 3] ?_; generalize hK : VS _ _ _ = KK; (try simp); (try subst hK); refine VS.region tabOk (id := 13) [] (by kernel_rfl) ?_; generalize hK : VS _ _ _ = KK; simp (maxSteps := 1000000) [hF]; (try subst hK); try (refine VS.keep [4, 5] ?_; generalize hK : VS _ _ _ = KK; simp; (try subst hK)))
    refine (rclone_ok S hp hS hN d.obj).call [(0, [])] (by simp) (by simp (maxSteps := 1000000) [hF, dRSp, dBool]) (by simp (maxSteps := 1000000) [hF, dRSp, dBool]) (by simp (maxSteps := 1000000) [hF, dRSp, dBool]) ?_
    rintro av X κ ⟨rfl, rfl, rfl⟩
    generalize hK : VS _ _ _ = KK; simp (maxSteps := 1000000) [hF, dRSp, dBool]; (try subst hK)
    try refine VS.ret ?_
    repeat first | refine blockN_ret ?_ | refine loopN_ret ?_
    refine endK.of [4, 5] [0] [(0, [.d])] (by simp [hF]) (by simp [covers, mpre]) ?_
    simp [hF, retK, dRSp, dBool, doOf, h0, h1, h2, h3, h4, h5]
  repeat first
    | refine VS.seq ?_
    | refine VS.skip ?_
    | refine VS.nil ?_
    | (refine VS.keepAt 14 [] ?_; generalize hK : VS _ _ _ = KK; (try simp); (try subst hK); refine VS.region tabOk (id := 14) [] (by kernel_rfl) ?_; generalize hK : VS _ _ _ = KK; simp (maxSteps := 1000000) [hF]; (try subst hK); try (refine VS.keep [4, 5] ?_; generalize hK : VS _ _ _ = KK; simp; (try subst hK)))
  try refine VS.ret ?_
  repeat first | refine blockN_ret ?_ | refine loopN_ret ?_
  refine endK.of [4, 5] [0] [(0, [.d])] (by simp [hF]) (by simp [covers, mpre]) ?_
  simp [hF, retK, dRSp, dBool, doOf, h0, h1, h2, h3, h4, h5]

/- cabochon/cabochonlaw20.asks -/
theorem asks_ok (S : Sp) (hp : 0 < S.shapes.length) {N : Nat} (hS : WF S N) (hN : N < 1000000) (o k : Int) (n : ByteArray) : Meets Try.prog 37 [dSp S, dRSp S] (.cons (.ptr 0 [.d]) (.cons (.ptr 1 [.d]) (.cons (avInt o) (.cons (avInt k) (.cons (.val (.string n)) .nil)))))
    fun av X κ => av = .val (.bool true) ∧ X = [dSp S, dRSp S] ∧ κ = [] := by
  refine Meets.of_vs tabOk Try.func37 (body := ?_) ?_ (by kernel_rfl) Try.ntmps37 (rs := [.tmp 10]) (by kernel_rfl) rfl (by simp [AV.len]) (by simp only [envOf]; exact rfl) ?_
  rotate_left
  · rfl
  intro w0 I0 F0 hF
  repeat first
    | refine VS.seq ?_
    | (refine VS.keepAt 0 [0, 1, 2, 3, 4] ?_; generalize hK : VS _ _ _ = KK; (try simp); (try subst hK); refine VS.region tabOk (id := 0) [] (by kernel_rfl) ?_; generalize hK : VS _ _ _ = KK; simp (maxSteps := 1000000) [hF]; (try subst hK); try (refine VS.keep [0, 1, 2, 3, 4] ?_; generalize hK : VS _ _ _ = KK; simp; (try subst hK)))
    | (refine VS.keepAt 1 [0, 1, 2, 3, 4] ?_; generalize hK : VS _ _ _ = KK; (try simp); (try subst hK); refine VS.region tabOk (id := 1) [] (by kernel_rfl) ?_; generalize hK : VS _ _ _ = KK; simp (maxSteps := 1000000) [hF]; (try subst hK); try (refine VS.keep [0, 1, 2, 3, 4, 11, 12] ?_; generalize hK : VS _ _ _ = KK; simp; (try subst hK)))
  cases hb : hasB S o with
  | false =>
    refine (names1_no S hS (by omega) o hb).call [(0, [])] (by simp) (by simp (maxSteps := 1000000) [hF, dSp]) (by simp (maxSteps := 1000000) [hF, dSp]) (by simp (maxSteps := 1000000) [hF, dSp]) ?_
    rintro av X κ ⟨rfl, rfl, rfl⟩
    generalize hK : VS _ _ _ = KK; simp (maxSteps := 1000000) [hF, dSp]; (try subst hK)
    repeat first
      | refine VS.seq ?_
      | (refine VS.keepAt 2 [0, 1, 2, 3, 4, 11, 12] ?_; generalize hK : VS _ _ _ = KK; (try simp); (try subst hK); refine VS.region tabOk (id := 2) [] (by kernel_rfl) ?_; generalize hK : VS _ _ _ = KK; simp (maxSteps := 1000000) [hF]; (try subst hK); try (refine VS.keep [0, 1, 2, 3, 4, 11, 12, 13, 14] ?_; generalize hK : VS _ _ _ = KK; simp; (try subst hK)))
    refine (rnames_no S hp o hb).call [(1, [])] (by simp) (by simp (maxSteps := 1000000) [hF, dRSp, dBool]) (by simp (maxSteps := 1000000) [hF, dRSp, dBool]) (by simp (maxSteps := 1000000) [hF, dRSp, dBool]) ?_
    rintro av X κ ⟨rfl, rfl, rfl⟩
    generalize hK : VS _ _ _ = KK; simp (maxSteps := 1000000) [hF, dRSp, dBool]; (try subst hK)
    repeat first
      | refine VS.seq ?_
      | (refine VS.keepAt 3 [0, 1, 2, 3, 4, 11, 12, 13, 14] ?_; generalize hK : VS _ _ _ = KK; (try simp); (try subst hK); refine VS.region tabOk (id := 3) [] (by kernel_rfl) ?_; generalize hK : VS _ _ _ = KK; simp (maxSteps := 1000000) [hF]; (try subst hK); try (refine VS.keep [0, 1, 2, 3, 4, 11, 12, 13, 14, 15, 16] ?_; generalize hK : VS _ _ _ = KK; simp; (try subst hK)))
    refine (shape_ok S o).call [(0, [])] (by simp) (by simp (maxSteps := 1000000) [hF, dSp]) (by simp (maxSteps := 1000000) [hF, dSp]) (by simp (maxSteps := 1000000) [hF, dSp]) ?_
    rintro av X κ ⟨rfl, rfl, rfl⟩
    generalize hK : VS _ _ _ = KK; simp (maxSteps := 1000000) [hF, dSp]; (try subst hK)
    repeat first
      | refine VS.seq ?_
      | (refine VS.keepAt 4 [0, 1, 2, 3, 4, 11, 12, 13, 14, 15, 16] ?_; generalize hK : VS _ _ _ = KK; (try simp); (try subst hK); refine VS.region tabOk (id := 4) [] (by kernel_rfl) ?_; generalize hK : VS _ _ _ = KK; simp (maxSteps := 1000000) [hF]; (try subst hK); try (refine VS.keep [0, 1, 2, 3, 4, 11, 12, 13, 14, 15, 16, 17, 18] ?_; generalize hK : VS _ _ _ = KK; simp; (try subst hK)))
    refine (rshape_ok S hp o).call [(1, [])] (by simp) (by simp (maxSteps := 1000000) [hF, dRSp, dBool]) (by simp (maxSteps := 1000000) [hF, dRSp, dBool]) (by simp (maxSteps := 1000000) [hF, dRSp, dBool]) ?_
    rintro av X κ ⟨rfl, rfl, rfl⟩
    generalize hK : VS _ _ _ = KK; simp (maxSteps := 1000000) [hF, dRSp, dBool]; (try subst hK)
    repeat first
      | refine VS.seq ?_
      | (refine VS.keepAt 5 [0, 1, 2, 3, 4, 11, 12, 13, 14, 15, 16, 17, 18] ?_; generalize hK : VS _ _ _ = KK; (try simp); (try subst hK); refine VS.region tabOk (id := 5) [(3, 52), (8, 57), (13, 62)] (by kernel_rfl) ?_; generalize hK : VS _ _ _ = KK; simp (maxSteps := 1000000) [hF]; (try subst hK); try (refine VS.keep [0, 1, 2, 3, 4, 67] ?_; generalize hK : VS _ _ _ = KK; simp; (try subst hK)))
    refine (same_nil).call [] (by simp) (by simp (maxSteps := 1000000) [hF]) (by simp (maxSteps := 1000000) [hF]) (by simp (maxSteps := 1000000) [hF]) ?_
    rintro av X κ ⟨rfl, rfl, rfl⟩
    generalize hK : VS _ _ _ = KK; simp (maxSteps := 1000000) [hF]; (try subst hK)
    repeat first
      | refine VS.seq ?_
      | refine VS.skip ?_
      | (refine VS.keepAt 7 [0, 1, 2, 3, 4] ?_; generalize hK : VS _ _ _ = KK; (try simp); (try subst hK); refine VS.region tabOk (id := 7) [] (by kernel_rfl) ?_; generalize hK : VS _ _ _ = KK; simp (maxSteps := 1000000) [hF]; (try subst hK); try (refine VS.keep [0, 1, 2, 3, 4, 12, 15] ?_; generalize hK : VS _ _ _ = KK; simp; (try subst hK)))
      | (refine VS.cond ?_; generalize hK1 : VS _ _ _ = KK1; generalize hK2 : VS _ _ _ = KK2; simp (maxSteps := 1000000) [hF]; (try subst hK1); (try subst hK2))
    refine (slot_ok S hS.sh k n).call [(0, [])] (by simp) (by simp (maxSteps := 1000000) [hF, dSp]) (by simp (maxSteps := 1000000) [hF, dSp]) (by simp (maxSteps := 1000000) [hF, dSp]) ?_
    rintro av X κ ⟨rfl, rfl, rfl⟩
    generalize hK : VS _ _ _ = KK; simp (maxSteps := 1000000) [hF, dSp]; (try subst hK)
    repeat first
      | refine VS.seq ?_
      | (refine VS.keepAt 8 [0, 1, 2, 3, 4, 12, 15] ?_; generalize hK : VS _ _ _ = KK; (try simp); (try subst hK); refine VS.region tabOk (id := 8) [] (by kernel_rfl) ?_; generalize hK : VS _ _ _ = KK; simp (maxSteps := 1000000) [hF]; (try subst hK); try (refine VS.keep [0, 1, 2, 3, 12, 14, 15, 17] ?_; generalize hK : VS _ _ _ = KK; simp; (try subst hK)))
    refine (rslot_ok S hp hS.sh k n).call [(1, [])] (by simp) (by simp (maxSteps := 1000000) [hF, dRSp, dBool]) (by simp (maxSteps := 1000000) [hF, dRSp, dBool]) (by simp (maxSteps := 1000000) [hF, dRSp, dBool]) ?_
    rintro av X κ ⟨rfl, rfl, rfl⟩
    generalize hK : VS _ _ _ = KK; simp (maxSteps := 1000000) [hF, dRSp, dBool]; (try subst hK)
    repeat first
      | refine VS.seq ?_
      | (refine VS.keepAt 9 [0, 1, 2, 3, 12, 14, 15, 17] ?_; generalize hK : VS _ _ _ = KK; (try simp); (try subst hK); refine VS.region tabOk (id := 9) [] (by kernel_rfl) ?_; generalize hK : VS _ _ _ = KK; simp (maxSteps := 1000000) [hF]; (try subst hK); try (refine VS.keep [0, 1, 2, 3, 12, 14, 15, 16, 17, 19] ?_; generalize hK : VS _ _ _ = KK; simp; (try subst hK)))
    refine (parent_ok S k).call [(0, [])] (by simp) (by simp (maxSteps := 1000000) [hF, dSp]) (by simp (maxSteps := 1000000) [hF, dSp]) (by simp (maxSteps := 1000000) [hF, dSp]) ?_
    rintro av X κ ⟨rfl, rfl, rfl⟩
    generalize hK : VS _ _ _ = KK; simp (maxSteps := 1000000) [hF, dSp]; (try subst hK)
    repeat first
      | refine VS.seq ?_
      | (refine VS.keepAt 10 [0, 1, 2, 3, 12, 14, 15, 16, 17, 19] ?_; generalize hK : VS _ _ _ = KK; (try simp); (try subst hK); refine VS.region tabOk (id := 10) [] (by kernel_rfl) ?_; generalize hK : VS _ _ _ = KK; simp (maxSteps := 1000000) [hF]; (try subst hK); try (refine VS.keep [0, 1, 2, 12, 14, 15, 16, 17, 18, 19, 20] ?_; generalize hK : VS _ _ _ = KK; simp; (try subst hK)))
    refine (rparent_ok S hp k).call [(1, [])] (by simp) (by simp (maxSteps := 1000000) [hF, dRSp, dBool]) (by simp (maxSteps := 1000000) [hF, dRSp, dBool]) (by simp (maxSteps := 1000000) [hF, dRSp, dBool]) ?_
    rintro av X κ ⟨rfl, rfl, rfl⟩
    generalize hK : VS _ _ _ = KK; simp (maxSteps := 1000000) [hF, dRSp, dBool]; (try subst hK)
    repeat first
      | refine VS.seq ?_
      | (refine VS.keepAt 11 [0, 1, 2, 12, 14, 15, 16, 17, 18, 19, 20] ?_; generalize hK : VS _ _ _ = KK; (try simp); (try subst hK); refine VS.region tabOk (id := 11) [] (by kernel_rfl) ?_; generalize hK : VS _ _ _ = KK; simp (maxSteps := 1000000) [hF]; (try subst hK); try (refine VS.keep [0, 1, 2, 12, 14, 15, 16, 17, 18, 19, 20, 21, 22] ?_; generalize hK : VS _ _ _ = KK; simp; (try subst hK)))
    refine (frozen_ok S o).call [(0, [])] (by simp) (by simp (maxSteps := 1000000) [hF, dSp]) (by simp (maxSteps := 1000000) [hF, dSp]) (by simp (maxSteps := 1000000) [hF, dSp]) ?_
    rintro av X κ ⟨rfl, rfl, rfl⟩
    generalize hK : VS _ _ _ = KK; simp (maxSteps := 1000000) [hF, dSp]; (try subst hK)
    repeat first
      | refine VS.seq ?_
      | (refine VS.keepAt 12 [0, 1, 2, 12, 14, 15, 16, 17, 18, 19, 20, 21, 22] ?_; generalize hK : VS _ _ _ = KK; (try simp); (try subst hK); refine VS.region tabOk (id := 12) [] (by kernel_rfl) ?_; generalize hK : VS _ _ _ = KK; simp (maxSteps := 1000000) [hF]; (try subst hK); try (refine VS.keep [0, 1, 12, 14, 15, 16, 17, 18, 19, 20, 21, 22, 23, 24] ?_; generalize hK : VS _ _ _ = KK; simp; (try subst hK)))
    refine (rfrozen_ok S hp o).call [(1, [])] (by simp) (by simp (maxSteps := 1000000) [hF, dRSp, dBool]) (by simp (maxSteps := 1000000) [hF, dRSp, dBool]) (by simp (maxSteps := 1000000) [hF, dRSp, dBool]) ?_
    rintro av X κ ⟨rfl, rfl, rfl⟩
    generalize hK : VS _ _ _ = KK; simp (maxSteps := 1000000) [hF, dRSp, dBool]; (try subst hK)
    repeat first
      | refine VS.seq ?_
      | (refine VS.keepAt 13 [0, 1, 12, 14, 15, 16, 17, 18, 19, 20, 21, 22, 23, 24] ?_; generalize hK : VS _ _ _ = KK; (try simp); (try subst hK); refine VS.region tabOk (id := 13) [(3, 109), (8, 114), (13, 119), (18, 124), (23, 129), (28, 134)] (by kernel_rfl) ?_; generalize hK : VS _ _ _ = KK; simp (maxSteps := 1000000) [hF]; (try subst hK); try (refine VS.keep [10] ?_; generalize hK : VS _ _ _ = KK; simp; (try subst hK)))
    refine (shapes_ok S).call [(0, [])] (by simp) (by simp (maxSteps := 1000000) [hF, dSp]) (by simp (maxSteps := 1000000) [hF, dSp]) (by simp (maxSteps := 1000000) [hF, dSp]) ?_
    rintro av X κ ⟨rfl, rfl, rfl⟩
    generalize hK : VS _ _ _ = KK; simp (maxSteps := 1000000) [hF, dSp]; (try subst hK)
    refine (rshapes_ok S).call [(1, [])] (by simp) (by simp (maxSteps := 1000000) [hF, dRSp, dBool]) (by simp (maxSteps := 1000000) [hF, dRSp, dBool]) (by simp (maxSteps := 1000000) [hF, dRSp, dBool]) ?_
    rintro av X κ ⟨rfl, rfl, rfl⟩
    generalize hK : VS _ _ _ = KK; simp (maxSteps := 1000000) [hF, dRSp, dBool]; (try subst hK)
    try refine VS.ret ?_
    repeat first | refine blockN_ret ?_ | refine loopN_ret ?_
    refine endK.of [10] [0, 1] [] (by simp [hF]) (by simp [covers, mpre]) ?_
    simp [hF, retK, dSp, dRSp, dBool]
  | true =>
    obtain ⟨j, rfl, hj, _⟩ := hasB_true hb
    have hnl := (hS.ob _ (List.getElem_mem hj)).names_len
    refine (names1_yes S hS (by omega) j hb).call [(0, [])] (by simp) (by simp (maxSteps := 1000000) [hF, dSp]) (by simp (maxSteps := 1000000) [hF, dSp]) (by simp (maxSteps := 1000000) [hF, dSp]) ?_
    rintro av X κ ⟨rfl, rfl, rfl⟩
    generalize hK : VS _ _ _ = KK; simp (maxSteps := 1000000) [hF, dSp]; (try subst hK)
    repeat first
      | refine VS.seq ?_
      | (refine VS.keepAt 2 [0, 1, 2, 3, 4, 11, 12] ?_; generalize hK : VS _ _ _ = KK; (try simp); (try subst hK); refine VS.region tabOk (id := 2) [] (by kernel_rfl) ?_; generalize hK : VS _ _ _ = KK; simp (maxSteps := 1000000) [hF]; (try subst hK); try (refine VS.keep [0, 1, 2, 3, 4, 11, 12, 13, 14] ?_; generalize hK : VS _ _ _ = KK; simp; (try subst hK)))
    refine (rnames_yes S hp hS (by omega) j hj).call [(1, [])] (by simp) (by simp (maxSteps := 1000000) [hF, dRSp, dBool]) (by simp (maxSteps := 1000000) [hF, dRSp, dBool]) (by simp (maxSteps := 1000000) [hF, dRSp, dBool]) ?_
    rintro av X κ ⟨rfl, rfl, rfl⟩
    generalize hK : VS _ _ _ = KK; simp (maxSteps := 1000000) [hF, dRSp, dBool]; (try subst hK)
    repeat first
      | refine VS.seq ?_
      | (refine VS.keepAt 3 [0, 1, 2, 3, 4, 11, 12, 13, 14] ?_; generalize hK : VS _ _ _ = KK; (try simp); (try subst hK); refine VS.region tabOk (id := 3) [] (by kernel_rfl) ?_; generalize hK : VS _ _ _ = KK; simp (maxSteps := 1000000) [hF]; (try subst hK); try (refine VS.keep [0, 1, 2, 3, 4, 11, 12, 13, 14, 15, 16] ?_; generalize hK : VS _ _ _ = KK; simp; (try subst hK)))
    refine (shape_ok S j).call [(0, [])] (by simp) (by simp (maxSteps := 1000000) [hF, dSp]) (by simp (maxSteps := 1000000) [hF, dSp]) (by simp (maxSteps := 1000000) [hF, dSp]) ?_
    rintro av X κ ⟨rfl, rfl, rfl⟩
    generalize hK : VS _ _ _ = KK; simp (maxSteps := 1000000) [hF, dSp]; (try subst hK)
    repeat first
      | refine VS.seq ?_
      | (refine VS.keepAt 4 [0, 1, 2, 3, 4, 11, 12, 13, 14, 15, 16] ?_; generalize hK : VS _ _ _ = KK; (try simp); (try subst hK); refine VS.region tabOk (id := 4) [] (by kernel_rfl) ?_; generalize hK : VS _ _ _ = KK; simp (maxSteps := 1000000) [hF]; (try subst hK); try (refine VS.keep [0, 1, 2, 3, 4, 11, 12, 13, 14, 15, 16, 17, 18] ?_; generalize hK : VS _ _ _ = KK; simp; (try subst hK)))
    refine (rshape_ok S hp j).call [(1, [])] (by simp) (by simp (maxSteps := 1000000) [hF, dRSp, dBool]) (by simp (maxSteps := 1000000) [hF, dRSp, dBool]) (by simp (maxSteps := 1000000) [hF, dRSp, dBool]) ?_
    rintro av X κ ⟨rfl, rfl, rfl⟩
    generalize hK : VS _ _ _ = KK; simp (maxSteps := 1000000) [hF, dRSp, dBool]; (try subst hK)
    repeat first
      | refine VS.seq ?_
      | (refine VS.keepAt 5 [0, 1, 2, 3, 4, 11, 12, 13, 14, 15, 16, 17, 18] ?_; generalize hK : VS _ _ _ = KK; (try simp); (try subst hK); refine VS.region tabOk (id := 5) [(3, 52), (8, 57), (13, 62)] (by kernel_rfl) ?_; generalize hK : VS _ _ _ = KK; simp (maxSteps := 1000000) [hF]; (try subst hK); try (refine VS.keep [0, 1, 2, 3, 4, 67] ?_; generalize hK : VS _ _ _ = KK; simp; (try subst hK)))
    refine (same_ok true true false false (obAt S j).names (obAt S j).names (by rw [obAt_eq hj]; omega)).call [(2, []), (3, [])] (by simp) (by simp (maxSteps := 1000000) [hF]) (by simp (maxSteps := 1000000) [hF]) (by simp (maxSteps := 1000000) [hF]) ?_
    rintro av X κ ⟨rfl, rfl, rfl⟩
    generalize hK : VS _ _ _ = KK; simp (maxSteps := 1000000) [hF]; (try subst hK)
    repeat first
      | refine VS.seq ?_
      | refine VS.skip ?_
      | (refine VS.keepAt 7 [0, 1, 2, 3, 4] ?_; generalize hK : VS _ _ _ = KK; (try simp); (try subst hK); refine VS.region tabOk (id := 7) [] (by kernel_rfl) ?_; generalize hK : VS _ _ _ = KK; simp (maxSteps := 1000000) [hF]; (try subst hK); try (refine VS.keep [0, 1, 2, 3, 4, 12, 15] ?_; generalize hK : VS _ _ _ = KK; simp; (try subst hK)))
      | (refine VS.cond ?_; generalize hK1 : VS _ _ _ = KK1; generalize hK2 : VS _ _ _ = KK2; simp (maxSteps := 1000000) [hF]; (try subst hK1); (try subst hK2))
    refine (slot_ok S hS.sh k n).call [(0, [])] (by simp) (by simp (maxSteps := 1000000) [hF, dSp]) (by simp (maxSteps := 1000000) [hF, dSp]) (by simp (maxSteps := 1000000) [hF, dSp]) ?_
    rintro av X κ ⟨rfl, rfl, rfl⟩
    generalize hK : VS _ _ _ = KK; simp (maxSteps := 1000000) [hF, dSp]; (try subst hK)
    repeat first
      | refine VS.seq ?_
      | (refine VS.keepAt 8 [0, 1, 2, 3, 4, 12, 15] ?_; generalize hK : VS _ _ _ = KK; (try simp); (try subst hK); refine VS.region tabOk (id := 8) [] (by kernel_rfl) ?_; generalize hK : VS _ _ _ = KK; simp (maxSteps := 1000000) [hF]; (try subst hK); try (refine VS.keep [0, 1, 2, 3, 12, 14, 15, 17] ?_; generalize hK : VS _ _ _ = KK; simp; (try subst hK)))
    refine (rslot_ok S hp hS.sh k n).call [(1, [])] (by simp) (by simp (maxSteps := 1000000) [hF, dRSp, dBool]) (by simp (maxSteps := 1000000) [hF, dRSp, dBool]) (by simp (maxSteps := 1000000) [hF, dRSp, dBool]) ?_
    rintro av X κ ⟨rfl, rfl, rfl⟩
    generalize hK : VS _ _ _ = KK; simp (maxSteps := 1000000) [hF, dRSp, dBool]; (try subst hK)
    repeat first
      | refine VS.seq ?_
      | (refine VS.keepAt 9 [0, 1, 2, 3, 12, 14, 15, 17] ?_; generalize hK : VS _ _ _ = KK; (try simp); (try subst hK); refine VS.region tabOk (id := 9) [] (by kernel_rfl) ?_; generalize hK : VS _ _ _ = KK; simp (maxSteps := 1000000) [hF]; (try subst hK); try (refine VS.keep [0, 1, 2, 3, 12, 14, 15, 16, 17, 19] ?_; generalize hK : VS _ _ _ = KK; simp; (try subst hK)))
    refine (parent_ok S k).call [(0, [])] (by simp) (by simp (maxSteps := 1000000) [hF, dSp]) (by simp (maxSteps := 1000000) [hF, dSp]) (by simp (maxSteps := 1000000) [hF, dSp]) ?_
    rintro av X κ ⟨rfl, rfl, rfl⟩
    generalize hK : VS _ _ _ = KK; simp (maxSteps := 1000000) [hF, dSp]; (try subst hK)
    repeat first
      | refine VS.seq ?_
      | (refine VS.keepAt 10 [0, 1, 2, 3, 12, 14, 15, 16, 17, 19] ?_; generalize hK : VS _ _ _ = KK; (try simp); (try subst hK); refine VS.region tabOk (id := 10) [] (by kernel_rfl) ?_; generalize hK : VS _ _ _ = KK; simp (maxSteps := 1000000) [hF]; (try subst hK); try (refine VS.keep [0, 1, 2, 12, 14, 15, 16, 17, 18, 19, 20] ?_; generalize hK : VS _ _ _ = KK; simp; (try subst hK)))
    refine (rparent_ok S hp k).call [(1, [])] (by simp) (by simp (maxSteps := 1000000) [hF, dRSp, dBool]) (by simp (maxSteps := 1000000) [hF, dRSp, dBool]) (by simp (maxSteps := 1000000) [hF, dRSp, dBool]) ?_
    rintro av X κ ⟨rfl, rfl, rfl⟩
    generalize hK : VS _ _ _ = KK; simp (maxSteps := 1000000) [hF, dRSp, dBool]; (try subst hK)
    repeat first
      | refine VS.seq ?_
      | (refine VS.keepAt 11 [0, 1, 2, 12, 14, 15, 16, 17, 18, 19, 20] ?_; generalize hK : VS _ _ _ = KK; (try simp); (try subst hK); refine VS.region tabOk (id := 11) [] (by kernel_rfl) ?_; generalize hK : VS _ _ _ = KK; simp (maxSteps := 1000000) [hF]; (try subst hK); try (refine VS.keep [0, 1, 2, 12, 14, 15, 16, 17, 18, 19, 20, 21, 22] ?_; generalize hK : VS _ _ _ = KK; simp; (try subst hK)))
    refine (frozen_ok S j).call [(0, [])] (by simp) (by simp (maxSteps := 1000000) [hF, dSp]) (by simp (maxSteps := 1000000) [hF, dSp]) (by simp (maxSteps := 1000000) [hF, dSp]) ?_
    rintro av X κ ⟨rfl, rfl, rfl⟩
    generalize hK : VS _ _ _ = KK; simp (maxSteps := 1000000) [hF, dSp]; (try subst hK)
    repeat first
      | refine VS.seq ?_
      | (refine VS.keepAt 12 [0, 1, 2, 12, 14, 15, 16, 17, 18, 19, 20, 21, 22] ?_; generalize hK : VS _ _ _ = KK; (try simp); (try subst hK); refine VS.region tabOk (id := 12) [] (by kernel_rfl) ?_; generalize hK : VS _ _ _ = KK; simp (maxSteps := 1000000) [hF]; (try subst hK); try (refine VS.keep [0, 1, 12, 14, 15, 16, 17, 18, 19, 20, 21, 22, 23, 24] ?_; generalize hK : VS _ _ _ = KK; simp; (try subst hK)))
    refine (rfrozen_ok S hp j).call [(1, [])] (by simp) (by simp (maxSteps := 1000000) [hF, dRSp, dBool]) (by simp (maxSteps := 1000000) [hF, dRSp, dBool]) (by simp (maxSteps := 1000000) [hF, dRSp, dBool]) ?_
    rintro av X κ ⟨rfl, rfl, rfl⟩
    generalize hK : VS _ _ _ = KK; simp (maxSteps := 1000000) [hF, dRSp, dBool]; (try subst hK)
    repeat first
      | refine VS.seq ?_
      | (refine VS.keepAt 13 [0, 1, 12, 14, 15, 16, 17, 18, 19, 20, 21, 22, 23, 24] ?_; generalize hK : VS _ _ _ = KK; (try simp); (try subst hK); refine VS.region tabOk (id := 13) [(3, 109), (8, 114), (13, 119), (18, 124), (23, 129), (28, 134)] (by kernel_rfl) ?_; generalize hK : VS _ _ _ = KK; simp (maxSteps := 1000000) [hF]; (try subst hK); try (refine VS.keep [10] ?_; generalize hK : VS _ _ _ = KK; simp; (try subst hK)))
    refine (shapes_ok S).call [(0, [])] (by simp) (by simp (maxSteps := 1000000) [hF, dSp]) (by simp (maxSteps := 1000000) [hF, dSp]) (by simp (maxSteps := 1000000) [hF, dSp]) ?_
    rintro av X κ ⟨rfl, rfl, rfl⟩
    generalize hK : VS _ _ _ = KK; simp (maxSteps := 1000000) [hF, dSp]; (try subst hK)
    refine (rshapes_ok S).call [(1, [])] (by simp) (by simp (maxSteps := 1000000) [hF, dRSp, dBool]) (by simp (maxSteps := 1000000) [hF, dRSp, dBool]) (by simp (maxSteps := 1000000) [hF, dRSp, dBool]) ?_
    rintro av X κ ⟨rfl, rfl, rfl⟩
    generalize hK : VS _ _ _ = KK; simp (maxSteps := 1000000) [hF, dRSp, dBool]; (try subst hK)
    try refine VS.ret ?_
    repeat first | refine blockN_ret ?_ | refine loopN_ret ?_
    refine endK.of [10] [0, 1] [] (by simp [hF]) (by simp [covers, mpre]) ?_
    simp [hF, retK, dSp, dRSp, dBool]
end Go.Proofs.Ythcndkpkkaphoaa

/- ShapePlays: whatever is done with a space, it tells what the document says. -/
namespace Go.Proofs.Ythcndkpkkaphoaa
set_option linter.all false
open Go.Vc Go.Proofs
set_option linter.unusedSimpArgs false
set_option maxRecDepth 100000
set_option maxHeartbeats 4000000
attribute [local irreducible] CallW EqK

/- cabochon/cabochonlaw20.ShapePlays -/
theorem plays_ok (ex : Bool) (l : List Deed) (object : Int) (name : ByteArray) : Meets Try.prog 11 [] (.cons (.imm 4 (dDeeds l) ex) (.cons (avInt object) (.cons (.val (.string name)) .nil))) fun av X κ => av = .val (.bool true) := by
  obtain ⟨q5, hq5, h51, h52⟩ := exists_part object 5 (by omega) (by omega)
  obtain ⟨q30, hq30, h301, h302⟩ := exists_part object 30 (by omega) (by omega)
  obtain ⟨q15, hq15, h151, h152⟩ := exists_part object 15 (by omega) (by omega)
  refine Meets.of_vs tabOk Try.func11 (body := ?_) ?_ (by kernel_rfl) Try.ntmps11 (rs := [.tmp 6]) (by kernel_rfl) rfl (by simp [AV.len]) (by simp only [envOf]; exact rfl) ?_
  rotate_left
  · rfl
  intro w0 I0 F0 hF
  repeat first
    | refine VS.seq ?_
    | (refine VS.keepAt 0 [0, 1, 2] ?_; generalize hK : VS _ _ _ = KK; (try simp); (try subst hK); refine VS.region tabOk (id := 0) [] (by kernel_rfl) ?_; generalize hK : VS _ _ _ = KK; simp (maxSteps := 1000000) [hF]; (try subst hK); try (refine VS.keep [0, 1, 2] ?_; generalize hK : VS _ _ _ = KK; simp; (try subst hK)))
    | (refine VS.keepAt 1 [0, 1, 2] ?_; generalize hK : VS _ _ _ = KK; (try simp); (try subst hK); refine VS.region tabOk (id := 1) [] (by kernel_rfl) ?_; generalize hK : VS _ _ _ = KK; simp (maxSteps := 1000000) [hF]; (try subst hK); try (refine VS.keep [0, 1, 2, 18] ?_; generalize hK : VS _ _ _ = KK; simp; (try subst hK)))
    | (refine VS.cond ?_; generalize hK1 : VS _ _ _ = KK1; generalize hK2 : VS _ _ _ = KK2; simp (maxSteps := 1000000) [hF]; (try subst hK1); (try subst hK2))
  refine ⟨fun hlen => ?_, fun hlen => ?_⟩
  · repeat first
      | refine VS.seq ?_
      | (refine VS.keepAt 2 [] ?_; generalize hK : VS _ _ _ = KK; (try simp); (try subst hK); refine VS.region tabOk (id := 2) [] (by kernel_rfl) ?_; generalize hK : VS _ _ _ = KK; simp (maxSteps := 1000000) [hF]; (try subst hK); try (refine VS.keep [6] ?_; generalize hK : VS _ _ _ = KK; simp; (try subst hK)))
    refine (sane_ok).call [] (by simp) (by simp (maxSteps := 1000000) [hF]) (by simp (maxSteps := 1000000) [hF]) (by simp (maxSteps := 1000000) [hF]) ?_
    rintro av X κ ⟨rfl, rfl, rfl⟩
    generalize hK : VS _ _ _ = KK; simp (maxSteps := 1000000) [hF]; (try subst hK)
    try refine VS.ret ?_
    repeat first | refine blockN_ret ?_ | refine loopN_ret ?_
    refine endK.of [6] [] [] (by simp [hF]) (by simp [covers, mpre]) ?_
    simp [hF, retK]
  · have hlen' : l.length ≤ 400 := by omega
    repeat first
      | refine VS.seq ?_
      | refine VS.skip ?_
      | (refine VS.keepAt 3 [0, 1, 2] ?_; generalize hK : VS _ _ _ = KK; (try simp); (try subst hK); refine VS.region tabOk (id := 3) [] (by kernel_rfl) ?_; generalize hK : VS _ _ _ = KK; simp (maxSteps := 1000000) [hF]; (try subst hK); try (refine VS.keep [0, 1, 2, 7, 8] ?_; generalize hK : VS _ _ _ = KK; simp; (try subst hK)))
    refine (new_ok).call [] (by simp) (by simp (maxSteps := 1000000) [hF]) (by simp (maxSteps := 1000000) [hF]) (by simp (maxSteps := 1000000) [hF]) ?_
    rintro av X κ ⟨rfl, rfl, rfl⟩
    generalize hK : VS _ _ _ = KK; simp (maxSteps := 1000000) [hF]; (try subst hK)
    refine (rnew_ok).call [] (by simp) (by simp (maxSteps := 1000000) [hF]) (by simp (maxSteps := 1000000) [hF]) (by simp (maxSteps := 1000000) [hF]) ?_
    rintro av X κ ⟨rfl, rfl, rfl⟩
    generalize hK : VS _ _ _ = KK; simp (maxSteps := 1000000) [hF]; (try subst hK)
    repeat first
      | refine VS.seq ?_
      | refine VS.block ?_
      | (refine VS.keepAt 4 [0, 1, 2, 7, 8] ?_; generalize hK : VS _ _ _ = KK; (try simp); (try subst hK); refine VS.region tabOk (id := 4) [] (by kernel_rfl) ?_; generalize hK : VS _ _ _ = KK; simp (maxSteps := 1000000) [hF]; (try subst hK); try (refine VS.keep [0, 1, 2, 7, 8, 9] ?_; generalize hK : VS _ _ _ = KK; simp; (try subst hK)))
    refine VS.rounds (fun m st => ∃ (i : Nat) (S : Sp), i + m = l.length ∧ 0 < S.shapes.length ∧ WF S i ∧
      st = ⟨[(0, .imm 4 (dDeeds l) ex), (1, avInt object), (2, .val (.string name)), (7, .ptr 0 [.d]), (8, .ptr 1 [.d]), (9, avInt i)], [dSp S, dRSp S], [], []⟩)
      ⟨l.length, 0, sp0, by omega, by simp [sp0], sp0_wf, rfl⟩ ?_
    rintro m st ⟨i, S, him, hpos, hwf, rfl⟩
    repeat first
      | refine VS.seq ?_
      | (refine VS.keepAt 5 [0, 1, 2, 7, 8, 9] ?_; generalize hK : VS _ _ _ = KK; (try simp); (try subst hK); refine VS.region tabOk (id := 5) [] (by kernel_rfl) ?_; generalize hK : VS _ _ _ = KK; simp (maxSteps := 1000000) [hF]; (try subst hK); try (refine VS.keep [0, 1, 2, 7, 8, 9, 25] ?_; generalize hK : VS _ _ _ = KK; simp; (try subst hK)))
      | (refine VS.cond ?_; generalize hK1 : VS _ _ _ = KK1; generalize hK2 : VS _ _ _ = KK2; simp (maxSteps := 1000000) [hF]; (try subst hK1); (try subst hK2))
    refine ⟨fun hlt => ?_, fun hge => ?_⟩
    · have hi : i < l.length := by omega
      have hn := dDeeds_nth hi
      have next : ∀ d : Deed, 0 < (doOf S d).1.shapes.length ∧ WF (doOf S d).1 (i + 1) := fun d => ⟨(doOf_wf hwf hpos d).2, (doOf_wf hwf hpos d).1⟩
      repeat first
        | refine VS.seq ?_
        | refine VS.skip ?_
        | refine VS.block ?_
        | (refine VS.keepAt 7 [0, 1, 2, 7, 8, 9] ?_; generalize hK : VS _ _ _ = KK; (try simp); (try subst hK); refine VS.region tabOk (id := 7) [] (by kernel_rfl) ?_; generalize hK : VS _ _ _ = KK; simp (maxSteps := 1000000) [hF, hi, hn]; (try subst hK); try (refine VS.keep [0, 1, 2, 7, 8, 9, 10] ?_; generalize hK : VS _ _ _ = KK; simp; (try subst hK)))
        | (refine VS.keepAt 8 [0, 1, 2, 7, 8, 9, 10] ?_; generalize hK : VS _ _ _ = KK; (try simp); (try subst hK); refine VS.region tabOk (id := 8) [] (by kernel_rfl) ?_; generalize hK : VS _ _ _ = KK; simp (maxSteps := 1000000) [hF, hi, hn]; (try subst hK); try (refine VS.keep [0, 1, 2, 7, 8, 9, 10, 34] ?_; generalize hK : VS _ _ _ = KK; simp; (try subst hK)))
        | (refine VS.cond ?_; generalize hK1 : VS _ _ _ = KK1; generalize hK2 : VS _ _ _ = KK2; simp (maxSteps := 1000000) [hF, hi, hn]; (try subst hK1); (try subst hK2))
      refine ⟨fun h4 => ?_, fun h4 => ?_⟩
      · repeat first
          | (refine VS.keepAt 9 [0, 1, 2, 7, 8, 9, 10] ?_; generalize hK : VS _ _ _ = KK; (try simp); (try subst hK); refine VS.region tabOk (id := 9) [] (by kernel_rfl) ?_; generalize hK : VS _ _ _ = KK; simp (maxSteps := 1000000) [hF]; (try subst hK); try (refine VS.keep [0, 1, 2, 7, 8, 9, 10] ?_; generalize hK : VS _ _ _ = KK; simp; (try subst hK)))
        refine (small_ok l[i]).call [] (by simp) (by simp (maxSteps := 1000000) [hF, avDeed]) (by simp (maxSteps := 1000000) [hF, avDeed]) (by simp (maxSteps := 1000000) [hF, avDeed]) ?_
        rintro av X κ ⟨rfl, rfl, rfl⟩
        generalize hK : VS _ _ _ = KK; simp (maxSteps := 1000000) [hF, avDeed]; (try subst hK)
        repeat first
          | refine VS.seq ?_
          | (refine VS.keepAt 10 [0, 1, 2, 7, 8, 9, 10] ?_; generalize hK : VS _ _ _ = KK; (try simp); (try subst hK); refine VS.region tabOk (id := 10) [] (by kernel_rfl) ?_; generalize hK : VS _ _ _ = KK; simp (maxSteps := 1000000) [hF]; (try subst hK); try (refine VS.keep [0, 1, 2, 7, 8, 9, 10, 11, 12] ?_; generalize hK : VS _ _ _ = KK; simp; (try subst hK)))
        obtain ⟨n1, n2⟩ := next (smallOf l[i])
        refine (do_ok S hwf (by omega) (smallOf l[i])).call [(0, [])] (by simp) (by simp (maxSteps := 1000000) [hF, dSp, avDeed]) (by simp (maxSteps := 1000000) [hF, dSp, avDeed]) (by simp (maxSteps := 1000000) [hF, dSp, avDeed]) ?_
        rintro av X κ ⟨rfl, rfl, rfl⟩
        generalize hK : VS _ _ _ = KK; simp (maxSteps := 1000000) [hF, dSp, avDeed]; (try subst hK)
        repeat first
          | refine VS.seq ?_
          | (refine VS.keepAt 11 [0, 1, 2, 7, 8, 9, 10, 11, 12] ?_; generalize hK : VS _ _ _ = KK; (try simp); (try subst hK); refine VS.region tabOk (id := 11) [] (by kernel_rfl) ?_; generalize hK : VS _ _ _ = KK; simp (maxSteps := 1000000) [hF]; (try subst hK); try (refine VS.keep [0, 1, 2, 7, 8, 9, 11, 12, 13, 14] ?_; generalize hK : VS _ _ _ = KK; simp; (try subst hK)))
        refine (told_ok S hpos hwf (by omega) (smallOf l[i])).call [(1, [])] (by simp) (by simp (maxSteps := 1000000) [hF, dRSp, avDeed]) (by simp (maxSteps := 1000000) [hF, dRSp, avDeed]) (by simp (maxSteps := 1000000) [hF, dRSp, avDeed]) ?_
        rintro av X κ ⟨rfl, rfl, rfl⟩
        generalize hK : VS _ _ _ = KK; simp (maxSteps := 1000000) [hF, dRSp, avDeed]; (try subst hK)
        generalize (doOf S (smallOf l[i])).1 = S1 at *
        repeat first
          | refine VS.seq ?_
          | (refine VS.keepAt 12 [0, 1, 2, 7, 8, 9, 11, 12, 13, 14] ?_; generalize hK : VS _ _ _ = KK; (try simp); (try subst hK); refine VS.region tabOk (id := 12) [(3, 52), (8, 57)] (by kernel_rfl) ?_; generalize hK : VS _ _ _ = KK; simp (maxSteps := 1000000) [hF]; (try subst hK); try (refine VS.keep [0, 1, 2, 7, 8, 9, 63] ?_; generalize hK : VS _ _ _ = KK; simp; (try subst hK)))
        refine (shapes_ok S1).call [(0, [])] (by simp) (by simp (maxSteps := 1000000) [hF, dSp]) (by simp (maxSteps := 1000000) [hF, dSp]) (by simp (maxSteps := 1000000) [hF, dSp]) ?_
        rintro av X κ ⟨rfl, rfl, rfl⟩
        generalize hK : VS _ _ _ = KK; simp (maxSteps := 1000000) [hF, dSp]; (try subst hK)
        refine (rshapes_ok S1).call [(1, [])] (by simp) (by simp (maxSteps := 1000000) [hF, dRSp]) (by simp (maxSteps := 1000000) [hF, dRSp]) (by simp (maxSteps := 1000000) [hF, dRSp]) ?_
        rintro av X κ ⟨rfl, rfl, rfl⟩
        generalize hK : VS _ _ _ = KK; simp (maxSteps := 1000000) [hF, dRSp]; (try subst hK)
        repeat first
          | refine VS.skip ?_
          | refine VS.nil ?_
          | refine blockN_normal ?_
          | refine loopN_normal ?_
          | (refine VS.keepAt 6 [0, 1, 2, 7, 8, 9] ?_; generalize hK : VS _ _ _ = KK; (try simp); (try subst hK); refine VS.region tabOk (id := 6) [] (by kernel_rfl) ?_; generalize hK : VS _ _ _ = KK; simp (maxSteps := 1000000) [hF]; (try subst hK); try (refine VS.keep [0, 1, 2, 7, 8, 9] ?_; generalize hK : VS _ _ _ = KK; simp; (try subst hK)))
          | (refine VS.cond ?_; generalize hK1 : VS _ _ _ = KK1; generalize hK2 : VS _ _ _ = KK2; simp (maxSteps := 1000000) [hF]; (try subst hK1); (try subst hK2))
        refine nextK.of [0, 1, 2, 7, 8, 9] [0, 1] (m - 1) (by omega) (by simp [hF]) ?_
        refine ⟨i + 1, S1, by omega, n1, n2, ?_⟩
        simp [dSp, dRSp]
        exact IntWalk.i64_in _ (by omega)
      · repeat first
          | refine VS.seq ?_
          | refine VS.skip ?_
          | (refine VS.keepAt 10 [0, 1, 2, 7, 8, 9, 10] ?_; generalize hK : VS _ _ _ = KK; (try simp); (try subst hK); refine VS.region tabOk (id := 10) [] (by kernel_rfl) ?_; generalize hK : VS _ _ _ = KK; simp (maxSteps := 1000000) [hF]; (try subst hK); try (refine VS.keep [0, 1, 2, 7, 8, 9, 10, 11, 12] ?_; generalize hK : VS _ _ _ = KK; simp; (try subst hK)))
        obtain ⟨n1, n2⟩ := next l[i]
        refine (do_ok S hwf (by omega) l[i]).call [(0, [])] (by simp) (by simp (maxSteps := 1000000) [hF, dSp, avDeed]) (by simp (maxSteps := 1000000) [hF, dSp, avDeed]) (by simp (maxSteps := 1000000) [hF, dSp, avDeed]) ?_
        rintro av X κ ⟨rfl, rfl, rfl⟩
        generalize hK : VS _ _ _ = KK; simp (maxSteps := 1000000) [hF, dSp, avDeed]; (try subst hK)
        repeat first
          | refine VS.seq ?_
          | (refine VS.keepAt 11 [0, 1, 2, 7, 8, 9, 10, 11, 12] ?_; generalize hK : VS _ _ _ = KK; (try simp); (try subst hK); refine VS.region tabOk (id := 11) [] (by kernel_rfl) ?_; generalize hK : VS _ _ _ = KK; simp (maxSteps := 1000000) [hF]; (try subst hK); try (refine VS.keep [0, 1, 2, 7, 8, 9, 11, 12, 13, 14] ?_; generalize hK : VS _ _ _ = KK; simp; (try subst hK)))
        refine (told_ok S hpos hwf (by omega) l[i]).call [(1, [])] (by simp) (by simp (maxSteps := 1000000) [hF, dRSp, avDeed]) (by simp (maxSteps := 1000000) [hF, dRSp, avDeed]) (by simp (maxSteps := 1000000) [hF, dRSp, avDeed]) ?_
        rintro av X κ ⟨rfl, rfl, rfl⟩
        generalize hK : VS _ _ _ = KK; simp (maxSteps := 1000000) [hF, dRSp, avDeed]; (try subst hK)
        generalize (doOf S l[i]).1 = S1 at *
        repeat first
          | refine VS.seq ?_
          | (refine VS.keepAt 12 [0, 1, 2, 7, 8, 9, 11, 12, 13, 14] ?_; generalize hK : VS _ _ _ = KK; (try simp); (try subst hK); refine VS.region tabOk (id := 12) [(3, 52), (8, 57)] (by kernel_rfl) ?_; generalize hK : VS _ _ _ = KK; simp (maxSteps := 1000000) [hF]; (try subst hK); try (refine VS.keep [0, 1, 2, 7, 8, 9, 63] ?_; generalize hK : VS _ _ _ = KK; simp; (try subst hK)))
        refine (shapes_ok S1).call [(0, [])] (by simp) (by simp (maxSteps := 1000000) [hF, dSp]) (by simp (maxSteps := 1000000) [hF, dSp]) (by simp (maxSteps := 1000000) [hF, dSp]) ?_
        rintro av X κ ⟨rfl, rfl, rfl⟩
        generalize hK : VS _ _ _ = KK; simp (maxSteps := 1000000) [hF, dSp]; (try subst hK)
        refine (rshapes_ok S1).call [(1, [])] (by simp) (by simp (maxSteps := 1000000) [hF, dRSp]) (by simp (maxSteps := 1000000) [hF, dRSp]) (by simp (maxSteps := 1000000) [hF, dRSp]) ?_
        rintro av X κ ⟨rfl, rfl, rfl⟩
        generalize hK : VS _ _ _ = KK; simp (maxSteps := 1000000) [hF, dRSp]; (try subst hK)
        repeat first
          | refine VS.skip ?_
          | refine VS.nil ?_
          | refine blockN_normal ?_
          | refine loopN_normal ?_
          | (refine VS.keepAt 6 [0, 1, 2, 7, 8, 9] ?_; generalize hK : VS _ _ _ = KK; (try simp); (try subst hK); refine VS.region tabOk (id := 6) [] (by kernel_rfl) ?_; generalize hK : VS _ _ _ = KK; simp (maxSteps := 1000000) [hF]; (try subst hK); try (refine VS.keep [0, 1, 2, 7, 8, 9] ?_; generalize hK : VS _ _ _ = KK; simp; (try subst hK)))
          | (refine VS.cond ?_; generalize hK1 : VS _ _ _ = KK1; generalize hK2 : VS _ _ _ = KK2; simp (maxSteps := 1000000) [hF]; (try subst hK1); (try subst hK2))
        refine nextK.of [0, 1, 2, 7, 8, 9] [0, 1] (m - 1) (by omega) (by simp [hF]) ?_
        refine ⟨i + 1, S1, by omega, n1, n2, ?_⟩
        simp [dSp, dRSp]
        exact IntWalk.i64_in _ (by omega)
    · repeat first
        | refine VS.seq ?_
        | refine VS.exit ?_
        | (refine VS.keepAt 14 [1, 2, 7, 8] ?_; generalize hK : VS _ _ _ = KK; (try simp); (try subst hK); refine VS.region tabOk (id := 14) [] (by kernel_rfl) ?_; generalize hK : VS _ _ _ = KK; simp (maxSteps := 1000000) [hF]; (try subst hK); try (refine VS.keep [1, 2, 7, 8, 15] ?_; generalize hK : VS _ _ _ = KK; simp; (try subst hK)))
      refine (lnames_ok).call [] (by simp) (by simp (maxSteps := 1000000) [hF]) (by simp (maxSteps := 1000000) [hF]) (by simp (maxSteps := 1000000) [hF]) ?_
      rintro av X κ ⟨rfl, rfl, rfl⟩
      generalize hK : VS _ _ _ = KK; simp (maxSteps := 1000000) [hF]; (try subst hK)
      repeat first
        | refine VS.seq ?_
        | (refine VS.keepAt 15 [1, 2, 7, 8, 15] ?_; generalize hK : VS _ _ _ = KK; (try simp); (try subst hK); refine VS.region tabOk (id := 15) [(6, 71), (26, 91)] (by kernel_rfl) ?_; generalize hK : VS _ _ _ = KK; simp (maxSteps := 1000000) [hF]; (try subst hK); try (refine VS.keep [6] ?_; generalize hK : VS _ _ _ = KK; simp; (try subst hK)))
      have hlt : q15.toNat < lnames.length := by
        have : lnames.length = 15 := rfl
        omega
      have hlt' : q15.toNat < 15 := by omega
      have hl15 : lnames.length = 15 := rfl
      have hnth := dStrs_nth hlt
      generalize lnames[q15.toNat] = nm at *
      refine (asks_ok S hpos hwf (by omega) object object name).call [(0, []), (1, [])] (by simp) (by simp (maxSteps := 1000000) [hF, dSp, dRSp, hq5, hq30, hq15, h151, h152, hlt', hl15, hnth]) (by simp (maxSteps := 1000000) [hF, dSp, dRSp, hq5, hq30, hq15, h151, h152, hlt', hl15, hnth]) (by simp (maxSteps := 1000000) [hF, dSp, dRSp, hq5, hq30, hq15, h151, h152, hlt', hl15, hnth]) ?_
      rintro av X κ ⟨rfl, rfl, rfl⟩
      generalize hK : VS _ _ _ = KK; simp (maxSteps := 1000000) [hF, dSp, dRSp, hq5, hq30, hq15, h151, h152, hlt', hl15, hnth]; (try subst hK)
      refine (asks_ok S hpos hwf (by omega) q5 q30 nm).call [(0, []), (1, [])] (by simp) (by simp (maxSteps := 1000000) [hF, dSp, dRSp]) (by simp (maxSteps := 1000000) [hF, dSp, dRSp]) (by simp (maxSteps := 1000000) [hF, dSp, dRSp]) ?_
      rintro av X κ ⟨rfl, rfl, rfl⟩
      generalize hK : VS _ _ _ = KK; simp (maxSteps := 1000000) [hF, dSp, dRSp]; (try subst hK)
      refine (sane_ok).call [] (by simp) (by simp (maxSteps := 1000000) [hF]) (by simp (maxSteps := 1000000) [hF]) (by simp (maxSteps := 1000000) [hF]) ?_
      rintro av X κ ⟨rfl, rfl, rfl⟩
      generalize hK : VS _ _ _ = KK; simp (maxSteps := 1000000) [hF]; (try subst hK)
      try refine VS.ret ?_
      repeat first | refine blockN_ret ?_ | refine loopN_ret ?_
      refine endK.of [6] [] [] (by simp [hF]) (by simp [covers, mpre]) ?_
      simp [hF, retK]
end Go.Proofs.Ythcndkpkkaphoaa

/- From what a row's argument reads as to trees that cannot change. -/
namespace Go.Vc
set_option linter.all false
open T (hdr blk)

/-- The blocks that are there. -/
abbrev allB (w : World) : Nat → Prop := fun b => b < w.heap.size

/-- What a reading of a type shows: a tree that cannot change, of 'z' cells, with such a content. -/
def Reads (P : Program) (t : TypeId) (z : Nat) (good : D → Prop) : Prop :=
  ∀ (H : Type) (enc : TypeId × Value → H) (w : World) (fuel : Nat) (cs : List Value) (x : DataW H × List MemPlace), DataW.trod enc P w 0 (fun _ => true) true fuel t cs = some x →
    ∃ g : G, T.Holds w.heap (allB w) g ∧ g.free = true ∧ g.cells = cs ∧ g.width = z ∧ good g.erase

theorem reads_int {P : Program} {t : TypeId} {k : IntKind} (ht : P.underlying t = some (.int k)) : Reads P t 1 fun d => ∃ n, d = .val (.int k n) := fun H enc w fuel cs x h => by
  obtain ⟨n, rfl, _, _⟩ := DataW.trod_int ht h
  exact ⟨.val (.int k n), rfl, rfl, rfl, rfl, n, rfl⟩
theorem reads_str {P : Program} {t : TypeId} (ht : P.underlying t = some .string) : Reads P t 1 fun d => ∃ s, d = .val (.string s) := fun H enc w fuel cs x h => by
  obtain ⟨s, rfl, _, _⟩ := DataW.trod_string ht h
  exact ⟨.val (.string s), rfl, rfl, rfl, rfl, s, rfl⟩
theorem reads_bool {P : Program} {t : TypeId} (ht : P.underlying t = some .bool) : Reads P t 1 fun d => ∃ b, d = .val (.bool b) := fun H enc w fuel cs x h => by
  obtain ⟨b, rfl, _⟩ := DataW.trod_bool ht h
  exact ⟨.val (.bool b), rfl, rfl, rfl, rfl, b, rfl⟩

/-- The fields of a struct, one behind the other. -/
def FieldsRead (P : Program) : List Field → List (Nat × (D → Prop)) → Nat → Prop
  | [], [], _ => True
  | f :: fs, (z, good) :: r, o => Reads P f.type z good ∧ P.cellsOf f.type = z ∧ f.offset = o ∧ FieldsRead P fs r (o + z)
  | _, _, _ => False
def fieldsGood : List (Nat × (D → Prop)) → D → Prop
  | [], d => d = .nil
  | (_, good) :: r, d => ∃ a t, d = .cons a t ∧ good a ∧ fieldsGood r t
def fieldsSize : List (Nat × (D → Prop)) → Nat
  | [] => 0
  | (z, _) :: r => z + fieldsSize r

theorem reads_struct {P : Program} {t : TypeId} {fs : Array Field} (ht : P.underlying t = some (.struct fs)) {gs : List (Nat × (D → Prop))} (hf : FieldsRead P fs.toList gs 0) (hz : P.cellsOf t = fieldsSize gs) :
    Reads P t (fieldsSize gs) fun d => ∃ s, d = .agg s ∧ fieldsGood gs s := fun H enc w fuel cs x h => by
  obtain ⟨xs, n, _, _, hl, hlen, he⟩ := DataW.trod_struct ht h
  have each : ∀ f ∈ fs.toList, ∃ y, DataW.trod enc P w 0 (fun _ => true) true n f.type ((cs.drop f.offset).take (P.cellsOf f.type)) = some y := fun f hm => by
    obtain ⟨i, hi, rfl⟩ := List.getElem_of_mem hm
    have h1 := he i fs[i] (by simp at hi; simp [hi])
    rw [List.getElem?_eq_getElem (by simp at hi; omega)] at h1
    exact ⟨_, h1⟩
  have key : ∀ (l : List Field) (gs : List (Nat × (D → Prop))) (o : Nat), FieldsRead P l gs o → (∀ f ∈ l, f ∈ fs.toList) → cs.length = o + fieldsSize gs →
      ∃ s : G, T.Holds w.heap (allB w) s ∧ s.free = true ∧ s.cells = cs.drop o ∧ s.width = fieldsSize gs ∧ fieldsGood gs s.erase := by
    intro l
    induction l with
    | nil =>
      intro gs o h1 _ h2
      cases gs with
      | nil => exact ⟨.nil, trivial, rfl, by simp only [fieldsSize] at h2; simp [T.cells, h2], rfl, rfl⟩
      | cons _ _ => exact h1.elim
    | cons f l ih =>
      intro gs o h1 hm h2
      cases gs with
      | nil => exact h1.elim
      | cons p r =>
        obtain ⟨z, good⟩ := p
        obtain ⟨k1, k2, k3, k4⟩ := h1
        simp only [fieldsSize] at h2
        obtain ⟨s, s1, s2, s3, s4, s5⟩ := ih r (o + z) k4 (fun f hf => hm f (by simp [hf])) (by omega)
        obtain ⟨y, hy⟩ := each f (hm f (by simp))
        obtain ⟨g, g1, g2, g3, g4, g5⟩ := k1 H enc w n _ y hy
        refine ⟨.cons g s, ⟨g1, s1⟩, by simp [T.free, g2, s2], ?_, by simp [T.width, g4, s4, fieldsSize], _, _, rfl, g5, s5⟩
        simp only [T.cells, g3, s3, k2, k3]
        rw [← List.drop_drop, List.take_append_drop]
  obtain ⟨s, s1, s2, s3, s4, s5⟩ := key fs.toList gs 0 hf (fun _ h => h) (by rw [hl, hz]; omega)
  exact ⟨.agg s, s1, s2, by simpa [T.cells] using s3, s4, _, rfl, s5⟩

theorem erase_agg {g : G} {s : D} (h : g.erase = .agg s) : ∃ s', g = .agg s' ∧ s'.erase = s := by
  cases g <;> simp only [T.erase] at h <;> cases h
  exact ⟨_, rfl, rfl⟩
theorem erase_cons {g : G} {a t : D} (h : g.erase = .cons a t) : ∃ a' t', g = .cons a' t' ∧ a'.erase = a ∧ t'.erase = t := by
  cases g <;> simp only [T.erase] at h <;> cases h
  exact ⟨_, _, rfl, rfl, rfl⟩
theorem erase_val {g : G} {v : Value} (h : g.erase = .val v) : g = .val v := by
  cases g <;> simp only [T.erase] at h <;> cases h
  rfl
theorem erase_nil {g : G} (h : g.erase = .nil) : g = .nil := by
  cases g <;> simp only [T.erase] at h <;> cases h
  rfl

theorem map_of {α β : Type} {f : β → α} : ∀ {l : List α}, (∀ x ∈ l, ∃ y, x = f y) → ∃ ys : List β, l = ys.map f
  | [], _ => ⟨[], rfl⟩
  | x :: l, h => by
    obtain ⟨y, hy⟩ := h x (by simp)
    obtain ⟨ys, hys⟩ := map_of (l := l) (f := f) fun x hx => h x (List.mem_cons_of_mem _ hx)
    exact ⟨y :: ys, by rw [hy, hys]; rfl⟩

theorem cells?_at {w : World} {a : Addr} {n : Nat} {cs : List Value} (h : w.cells? 0 a n = some cs) : cs.length = n ∧ ∀ r v, cs[r]? = some v → w.cell? (a.add r) = some v := by
  obtain ⟨_, h1, h2⟩ := World.cells?_some h
  refine ⟨h1, fun r v hv => ?_⟩
  have hr : r < n := by rw [← h1]; exact (List.getElem?_eq_some_iff.1 hv).1
  have := h2 r hr
  rw [this, hv]

/-- The elements of a slice, one behind the other. -/
theorem reads_elems {P : Program} {e : TypeId} {z : Nat} {good : D → Prop} (he : Reads P e z good) {H : Type} {enc : TypeId × Value → H} {w : World} {n : Nat} {at_ : Nat → List Value} : ∀ (len i0 : Nat),
    (∀ i, i < len → ∃ y, DataW.trod enc P w 0 (fun _ => true) true n e (at_ (i0 + i)) = some y) →
    ∃ s : G, ∃ l : List D, T.Holds w.heap (allB w) s ∧ s.free = true ∧ s.uni z ∧ s.len = len ∧ s.erase = sq l ∧ l.length = len ∧ (∀ d ∈ l, good d) ∧ s.cells = ((List.range len).map fun i => at_ (i0 + i)).flatten
  | 0, i0, _ => ⟨.nil, [], trivial, rfl, trivial, rfl, rfl, rfl, by simp, rfl⟩
  | len + 1, i0, h => by
    obtain ⟨y, hy⟩ := h 0 (by omega)
    obtain ⟨g, g1, g2, g3, g4, g5⟩ := he H enc w n _ y hy
    obtain ⟨s, l, s1, s2, s3, s4, s5, s6, s7, s8⟩ := reads_elems he len (i0 + 1) fun i hi => by
      have := h (i + 1) (by omega)
      rwa [show i0 + (i + 1) = i0 + 1 + i by omega] at this
    refine ⟨.cons g s, g.erase :: l, ⟨g1, s1⟩, by simp [T.free, g2, s2], ⟨g4, s3⟩, by simp [T.len, s4], by simp [T.erase, sq, s5], by simp [s6], fun d hd => ?_, ?_⟩
    · rcases List.mem_cons.1 hd with rfl | hd
      · exact g5
      · exact s7 d hd
    · rw [List.range_succ_eq_map]
      simp only [T.cells, g3, s8, List.map_cons, List.flatten_cons, List.map_map, Nat.add_zero]
      congr 3
      funext i
      simp only [Function.comp]
      congr 1; omega

theorem flat_at {α : Type} {z : Nat} (hz : 0 < z) : ∀ (l : List (List α)) (_ : ∀ c ∈ l, c.length = z) (j : Nat) (v : α), l.flatten[j]? = some v → ∃ c, l[j / z]? = some c ∧ c[j % z]? = some v
  | [], _, j, v, h => by simp at h
  | c :: l, hl, j, v, h => by
    have hc := hl c (by simp)
    simp only [List.flatten_cons] at h
    rcases Nat.lt_or_ge j z with hj | hj
    · rw [List.getElem?_append_left (by omega)] at h
      exact ⟨c, by rw [Nat.div_eq_of_lt hj]; rfl, by rw [Nat.mod_eq_of_lt hj]; exact h⟩
    · rw [List.getElem?_append_right (by omega), hc] at h
      obtain ⟨c', h1, h2⟩ := flat_at hz l (fun c hc => hl c (by simp [hc])) (j - z) v h
      refine ⟨c', ?_, ?_⟩
      · rw [show j / z = (j - z) / z + 1 by rw [Nat.div_eq_sub_div hz hj]]; simpa using h1
      · rw [Nat.mod_eq_sub_mod hj]; exact h2

/-- A slice that is an argument: it cannot change. -/
theorem imm_of_trod {P : Program} {t e : TypeId} {z : Nat} {good : D → Prop} (ht : P.underlying t = some (.slice e)) (he : Reads P e z good) (hc : P.cellsOf e = z) (hz : 0 < z) {H : Type} {enc : TypeId × Value → H} {w : World}
    {r : Reach} {b0 : Nat} {v : Value} {d : DataW H} {ps : List MemPlace} (hv : Value.okWide P w r b0 t v) (h : DataW.Trod enc P w 0 (fun _ => true) true t v d ps) :
    ∃ l : List D, (∀ d ∈ l, good d) ∧ l.length ≤ 2 ^ 63 - 1 ∧ Rl w.heap (allB w) [] (.imm z (sq l) false) true [v] := by
  obtain ⟨fuel, h⟩ := h
  have hok : Cell.ok P w r b0 t v := by
    unfold Value.okWide at hv
    rw [ht] at hv
    simp only [Cell.okWide, ht] at hv
    exact hv
  have hform : v = .slice none 0 0 ∨ ∃ a len cap, v = .slice (some a) len cap ∧ len ≤ cap ∧ (cap : Int) ≤ IntKind.i64.max ∧ a.spot = none := by
    unfold Cell.ok at hok
    rw [ht] at hok
    split at hok <;> try exact hok.elim
    all_goals first
      | (rename_i heq; cases heq; done)
      | skip
    · exact .inl rfl
    · exact .inr ⟨_, _, _, rfl, hok.1, hok.2.1, hok.2.2.2.1⟩
  rcases hform with rfl | ⟨a, len, cap, rfl, hlc, hcm, hspot⟩
  · exact ⟨[], by simp, by simp, _, rfl, .nil, rfl, ⟨trivial, trivial, fun _ => rfl, rfl, rfl, rfl⟩, fun h => by cases h⟩
  · obtain ⟨b, o, sp⟩ := a
    simp only at hspot
    subst hspot
    have hcm' : cap ≤ 2 ^ 63 - 1 := by
      have : IntKind.i64.max = 2 ^ 63 - 1 := by decide
      omega
    rcases cap with _ | cap
    · obtain rfl : len = 0 := by omega
      exact ⟨[], by simp, by simp, _, rfl, .nil, rfl, ⟨trivial, trivial, fun _ => rfl, rfl, rfl, rfl⟩, fun h => by cases h⟩
    · rcases DataW.trod_slice ht h with ⟨h0, _⟩ | ⟨a, len', cap', elems, rest, n, _, h0, _, hb, hl, hm, hlen, hel, hsp, _⟩
      · simp [Value.cells] at h0
      · simp only [Value.cells, List.cons.injEq, Value.slice.injEq, Option.some.injEq, and_true] at h0
        obtain ⟨rfl, rfl, rfl⟩ := h0
        obtain ⟨hsp1, hsp2⟩ := hsp rfl
        have hadd : ∀ k, (⟨b, o, none⟩ : Addr).add k = ⟨b, o + k, none⟩ := fun k => by unfold Addr.add; split <;> simp_all
        rw [hc] at hel hsp2
        -- every element reads
        have each : ∀ i, i < cap + 1 → ∃ cs, w.cells? 0 ((⟨b, o, none⟩ : Addr).add (i * z)) z = some cs ∧ ∃ y, DataW.trod enc P w 0 (fun _ => true) true n e cs = some y := fun i hi => by
          by_cases h1 : i < len
          · have h2 := hel i h1
            rw [List.getElem?_eq_getElem (by omega)] at h2
            obtain ⟨cs, h3, h4⟩ := Option.bind_eq_some_iff.1 h2
            exact ⟨cs, h3, _, h4⟩
          · have h2 := hsp2 (i - len) (by omega)
            rw [List.getElem?_eq_getElem (by omega), show len + (i - len) = i by omega] at h2
            obtain ⟨cs, h3, h4⟩ := Option.bind_eq_some_iff.1 h2
            exact ⟨cs, h3, _, h4⟩
        -- the row
        obtain ⟨csl, hl1, _⟩ := each cap (by omega)
        obtain ⟨hl2, hl3⟩ := cells?_at hl1
        have hl4 := hl3 (z - 1) _ (List.getElem?_eq_getElem (by omega))
        rw [hadd] at hl4
        have hadd2 : ∀ (o' k : Nat), (⟨b, o', none⟩ : Addr).add k = ⟨b, o' + k, none⟩ := fun o' k => by unfold Addr.add; split <;> simp_all
        rw [hadd2] at hl4
        obtain ⟨row, e', fr, hrow⟩ : ∃ row e' fr, w.heap[b]? = some (.cells row e' fr) := by
          unfold World.cell? at hl4
          split at hl4
          · rename_i c _ _ heq; exact ⟨_, _, _, heq⟩
          · cases hl4
        have cell : ∀ k v, w.cell? ⟨b, k, none⟩ = some v → row[k]? = some v := fun k v hk => by
          unfold World.cell? at hk
          simp only [hrow] at hk
          simpa using hk
        have hblt : b < w.heap.size := by
          rcases Nat.lt_or_ge b w.heap.size with h' | h'
          · exact h'
          · rw [Array.getElem?_eq_none h'] at hrow; cases hrow
        have hsz : o + (cap + 1) * z ≤ row.size := by
          have h5 := cell _ _ hl4
          have h6 := (Array.getElem?_eq_some_iff.1 h5).1
          rw [Nat.add_mul]; omega
        obtain ⟨s, l, s1, s2, s3, s4, s5, s6, s7, s8⟩ := reads_elems (enc := enc) (w := w) (n := n) (at_ := fun i => (w.cells? 0 ((⟨b, o, none⟩ : Addr).add (i * z)) z).getD []) he len 0 fun i hi => by
          obtain ⟨cs, h1, h2⟩ := each (0 + i) (by omega)
          rw [h1]; exact h2
        refine ⟨l, s7, by omega, _, rfl, s, s5, ⟨s1, s3, fun _ => s2, rfl, s4.symm, hlc, hcm', fun _ => hblt, row, e', fr, hrow, (fun h => by cases h), hsz, fun j v hj => ?_⟩, fun h => by cases h⟩
        rw [s8] at hj
        obtain ⟨c, c1, c2⟩ := flat_at hz _ (fun c hcm => by
          obtain ⟨i, hi, rfl⟩ := List.mem_map.1 hcm
          obtain ⟨cs, h1, _⟩ := each (0 + i) (by have := List.mem_range.1 hi; omega)
          rw [h1]; exact (cells?_at h1).1) j v hj
        rw [List.getElem?_map] at c1
        cases hr : (List.range len)[j / z]? with
        | none => rw [hr] at c1; cases c1
        | some i =>
          rw [hr] at c1
          obtain ⟨hi1, hi2⟩ := List.getElem?_eq_some_iff.1 hr
          simp only [List.length_range] at hi1
          simp only [List.getElem_range] at hi2
          subst hi2
          obtain ⟨cs, h1, _⟩ := each (0 + j / z) (by omega)
          simp only [Option.map_some, Option.some.injEq, h1, Option.getD_some] at c1
          subst c1
          have h2 := (cells?_at h1).2 _ _ c2
          rw [hadd, hadd2] at h2
          have h3 := cell _ _ h2
          rw [← h3]
          congr 1
          have := Nat.div_add_mod j z
          rw [Nat.mul_comm] at this
          simp only [Nat.zero_add]
          omega
end Go.Vc
