/- A thing of the document's house moves. -/
import Derived.Test.YtkkbcpcihadkhaaK6
import Derived.Test.YtkkbcpcihadkhaaK3
import Derived.ChangeArms
import Derived.ChangeSlices
import Derived.Carry
namespace Go.Proofs.Ytkkbcpcihadkhaa
set_option linter.all false
open Go.Vc Go.Proofs
set_option linter.unusedSimpArgs false
set_option linter.unusedVariables false
set_option maxRecDepth 100000
set_option maxHeartbeats 4000000
attribute [local irreducible] CallW EqK
theorem emove_ok (h : Hs) (fl : Nat → Bool) (hok : Hok h) (who to x : Int) : Meets Try.prog 60 [eH h fl] (.cons (.ptr 0 [.d]) (.cons (avInt who) (.cons (avInt to) (.cons (avInt x) .nil))))
  fun av X κ => ∃ fl', av = avInt (moveE h who to x).2 ∧ X = [eH (moveE h who to x).1 fl'] ∧ κ = [(0, [.d])] := by
 refine fb Try.func60 Try.ntmps60 [.tmp 8] fun w0 I0 F0 hF => ?_
 repeat first|refine n1 ?_|((first|refine rg 0 [0, 1, 2, 3] [0, 1, 2, 3] [] ?_|refine rg 1 [0, 1, 2, 3] [0, 1, 2, 3, 27] [(4, 16), (10, 22)] ?_);simp (maxSteps := 1000000) [hF])
 cases hr : isR h who with
 | false =>
  have hc : moveE h who to x = (h, 1) := by simp [moveE, hr]
  refine (ewho_c h fl who).go [(0, [])] (by simp (maxSteps := 1000000) [hF, hr, eH]) ?_;rintro av X κ ⟨rfl, rfl, rfl⟩;simp (maxSteps := 1000000) [hF, hr, eH]
  repeat first|refine n1 ?_|((first|refine rg 2 [] [8] [] ?_|refine nc ?_);simp (maxSteps := 1000000) [hF])
  refine VS.widen [(0, [.d])] (by simp [covers, mpre]) ?_
  (try refine nr ?_);(repeat first|refine nb_ ?_|refine nl_ ?_);refine endK.o [8] [0] [(0, [.d])] ?_;simp [hF, retK, covers, mpre, eH, hc]
  exact ⟨_, rfl⟩
 | true =>
  obtain ⟨w, rfl, hwl⟩ := isR_nat hr
  refine (ewho_c h fl w).go [(0, [])] (by simp (maxSteps := 1000000) [hF, hr, eH]) ?_;rintro av X κ ⟨rfl, rfl, rfl⟩;simp (maxSteps := 1000000) [hF, hr, eH]
  cases hr2 : isR h to with
  | false =>
   have hc : moveE h w to x = (h, 1) := by simp [moveE, hr2]
   refine (ewho_c h fl to).go [(0, [])] (by simp (maxSteps := 1000000) [hF, hr2, eH]) ?_;rintro av X κ ⟨rfl, rfl, rfl⟩;simp (maxSteps := 1000000) [hF, hr2, eH]
   repeat first|refine n1 ?_|((first|refine rg 2 [] [8] [] ?_|refine nc ?_);simp (maxSteps := 1000000) [hF])
   refine VS.widen [(0, [.d])] (by simp [covers, mpre]) ?_
   (try refine nr ?_);(repeat first|refine nb_ ?_|refine nl_ ?_);refine endK.o [8] [0] [(0, [.d])] ?_;simp [hF, retK, covers, mpre, eH, hc]
   exact ⟨_, rfl⟩
  | true =>
   obtain ⟨t, rfl, htl⟩ := isR_nat hr2
   refine (ewho_c h fl t).go [(0, [])] (by simp (maxSteps := 1000000) [hF, hr2, eH]) ?_;rintro av X κ ⟨rfl, rfl, rfl⟩;simp (maxSteps := 1000000) [hF, hr2, eH]
   cases ht : isT h x with
   | false =>
    have hc : moveE h w t x = (h, 1) := by simp [moveE, ht]
    refine (ething_c h fl x).go [(0, [])] (by simp (maxSteps := 1000000) [hF, ht, eH]) ?_;rintro av X κ ⟨rfl, rfl, rfl⟩;simp (maxSteps := 1000000) [hF, ht, eH]
    repeat first|refine n1 ?_|((first|refine rg 2 [] [8] [] ?_|refine nc ?_);simp (maxSteps := 1000000) [hF])
    refine VS.widen [(0, [.d])] (by simp [covers, mpre]) ?_
    (try refine nr ?_);(repeat first|refine nb_ ?_|refine nl_ ?_);refine endK.o [8] [0] [(0, [.d])] ?_;simp [hF, retK, covers, mpre, eH, hc]
    exact ⟨_, rfl⟩
   | true =>
    obtain ⟨k, rfl, hk⟩ := isT_nat ht
    have hn := eTgs_nth (o := true) hk
    have hnr := eRmsF_nth (fl := fl) htl
    have hrl := reachE_len hok false hk
    have hLv : ∀ i, (hi : i < (reachE h.things false (k : Int)).length) → ∃ y : Nat, (reachE h.things false (k : Int))[i] = y ∧ y < h.things.length := fun i hi => reachE_nat hok false hk hi
    refine (ething_c h fl k).go [(0, [])] (by simp (maxSteps := 1000000) [hF, ht, eH]) ?_;rintro av X κ ⟨rfl, rfl, rfl⟩;simp (maxSteps := 1000000) [hF, ht, eH]
    repeat first|refine n1 ?_|refine n2 ?_|((first|refine rg 3 [0, 1, 2, 3] [0, 1, 2, 3, 9] [] ?_|refine nc ?_);simp (maxSteps := 1000000) [hF])
    refine (ereach_c h fl hok false k hk).go [(0, [])] (by simp (maxSteps := 1000000) [hF, eH]) ?_;rintro av X κ ⟨rfl, rfl, rfl⟩;simp (maxSteps := 1000000) [hF, eH]
    repeat first|refine n1 ?_
    refine VS.cool 9 (by simp (maxSteps := 1000000) [hF]) ?_;simp [hF, St.cool]
    generalize hL : reachE h.things false (k : Int) = L at *
    by_cases ho : h.things[k].owner = w
    ·repeat first|(refine rg 4 [0, 1, 2, 3, 9] [0, 1, 2, 3, 9, 46] [(10, 41)] ?_;simp (maxSteps := 1000000) [hF, hn, hk, ho])
     cases htd : tiedOf h w L with
     | true =>
      have hc : moveE h w t k = (h, 1) := by simp [moveE, hr, hr2, ht, hk, ho, hL, htd]
      refine (eheld_c h fl hok w hwl L false hrl).go [(0, [])] (by simp (maxSteps := 1000000) [hF, eH, htd]) ?_;rintro av X κ ⟨rfl, rfl, rfl⟩;simp (maxSteps := 1000000) [hF, eH, htd]
      repeat first|refine n1 ?_|((first|refine rg 5 [] [8] [] ?_|refine nc ?_);simp (maxSteps := 1000000) [hF, htd])
      refine VS.widen [(0, [.d])] (by simp [covers, mpre]) ?_
      (try refine nr ?_);(repeat first|refine nb_ ?_|refine nl_ ?_);refine endK.o [8] [0] [(0, [.d])] ?_;simp [hF, retK, covers, mpre, eH, hc]
      exact ⟨_, rfl⟩
     | false =>
      refine (eheld_c h fl hok w hwl L false hrl).go [(0, [])] (by simp (maxSteps := 1000000) [hF, eH, htd]) ?_;rintro av X κ ⟨rfl, rfl, rfl⟩;simp (maxSteps := 1000000) [hF, eH, htd]
      repeat first|refine n1 ?_|refine n2 ?_|((first|refine rg 6 [0, 1, 2, 3, 9] [0, 2, 3, 9, 10] [] ?_|refine nc ?_);simp (maxSteps := 1000000) [hF, htd])
      have hse : (if overB h t = true then 8 else stateOf h w [(k : Int)]) = sendingE h w t k := rfl
      refine (esending_c h fl w t hwl htl k ht).go [(0, [])] (by simp (maxSteps := 1000000) [hF, eH, hse]) ?_;rintro av X κ ⟨rfl, rfl, rfl⟩;simp (maxSteps := 1000000) [hF, eH, hse]
      by_cases hz : sendingE h w t k = 0
      ·have hself : h.rooms.set t ⟨h.rooms[t].queue, h.rooms[t].over⟩ = h.rooms := List.set_getElem_self _
       have hs0 := eRmsF_set fl h.rooms t h.rooms[t].queue h.rooms[t].over false
       rw [hself] at hs0
       have hnr2 := eRmsF_nth (fl := flSet fl t false) htl
       rw [show flSet fl t false t = false by simp [flSet]] at hnr2
       repeat first|refine n1 ?_|refine n2 ?_|((first|refine rg 7 [0, 2, 3, 9, 10] [0, 2, 3, 9, 10, 53] [] ?_|refine nc ?_);simp (maxSteps := 1000000) [hF, hz])
       refine VS.cold 0 [.d, .f 1, .i t, .f 1] (by simp (maxSteps := 1000000) [hF, hnr, htl, T.freeze, hs0]) (by simp (maxSteps := 1000000) [hF, hnr, htl, T.freeze, hs0]) (by simp (maxSteps := 1000000) [hF, hnr, htl, T.freeze, hs0]) ?_;simp [hF, St.cold, hnr, htl, T.freeze, hs0]
       by_cases hq : 50 ≤ h.rooms[t].queue.length
       ·have hqi : (50 : Int) ≤ h.rooms[t].queue.length := by omega
        have hc : moveE h w t k = (h, 9) := by simp [moveE, hr, hr2, ht, hL, htd, hz, htl, hq]
        repeat first|refine n1 ?_|((first|refine rg 9 [0, 2, 3, 9] [0, 2, 3, 9, 64] [] ?_|refine rg 10 [] [8] [] ?_|refine nc ?_);simp (maxSteps := 1000000) [hF, hnr2, htl, hqi, hs0])
        refine VS.widen [(0, [.d])] (by simp [covers, mpre]) ?_
        (try refine nr ?_);(repeat first|refine nb_ ?_|refine nl_ ?_);refine endK.o [8] [0] [(0, [.d])] ?_;simp [hF, retK, covers, mpre, eH, hc]
        exact ⟨_, rfl⟩
       ·have hqi : ¬ (50 : Int) ≤ h.rooms[t].queue.length := by omega
        have hc : moveE h w t k = (putOf { h with things := paint (ownF t) L h.things } t k, 0) := by simp [moveE, hr, hr2, ht, hL, htd, hz, htl, hq, hL]
        repeat first|refine n1 ?_|refine n2 ?_|refine n3 ?_|((first|refine rg 9 [0, 2, 3, 9] [0, 2, 3, 9, 64] [] ?_|refine rg 11 [0, 2, 3, 9] [0, 2, 3, 9, 11] [] ?_|refine nc ?_);simp (maxSteps := 1000000) [hF, hnr2, htl, hqi, hs0])
        refine VS.widen [(0, [.d])] (by simp [covers, mpre]) ?_
        refine VS.pick [0, 2, 3, 9, 11] [0] (by simp [hF]) ?_;simp [hF]
        refine VS.rounds (fun m st => ∃ (i : Nat) (P : List Tg), i + m = L.length ∧ P = paint (ownF t) (L.take i) h.things ∧ st = ⟨[(0, .ptr 0 [.d]), (2, avInt t), (3, avInt k), (9, .imm 1 (dInts L) false), (11, avInt i)], [eH ⟨h.rooms, P⟩ (flSet fl t false)], [(0, [.d])], []⟩) ⟨L.length, 0, h.things, by omega, by simp [paint_nil], by simp [eH]⟩ ?_
        rintro m st ⟨i, P, hi, hP, rfl⟩
        have hPl : P.length = h.things.length := by simp [hP]
        repeat first|refine n1 ?_|((first|refine rg 12 [0, 2, 3, 9, 11] [0, 2, 3, 9, 11, 68] [] ?_|refine nc ?_);simp (maxSteps := 1000000) [hF])
        refine ⟨fun hlt => ?_, fun hge => ?_⟩
        ·obtain ⟨y, hy, hyl⟩ := hLv i hlt
         have hyP : y < P.length := by omega
         have hn2 := eTgs_nth (o := true) hyP
         have hin : (dInts L).nth i = .val (.int .i64 y) := by rw [dInts_nth hlt, hy]
         have hw2 : IntKind.i64.wrap ((i : Int) + 1) = (i + 1 : Nat) := by rw [IntWalk.i64_in _ (by omega)]; rfl
         have hset := eTgs_set true P y t P[y].list P[y].word P[y].items P[y].frozen
         have hst : P.set y ⟨t, P[y].list, P[y].word, P[y].items, P[y].frozen⟩ = paint (ownF t) (L.take (i + 1)) h.things := by
          have e : L.take (i + 1) = L.take i ++ [(y : Int)] := by rw [List.take_add_one, List.getElem?_eq_getElem hlt, hy]; rfl
          rw [e, ← paint_step (f := ownF t) (fun _ => rfl) hyl]
          subst hP; rfl
         repeat first|refine n1 ?_|refine n2 ?_|refine n3 ?_|refine n4 ?_|refine n5 ?_|refine n6 ?_|((first|refine rg 13 [0, 2, 3, 9, 11] [0, 2, 3, 9, 11] [] ?_|(refine dr 14 0 [0, 2, 3, 9, 11] [0, 2, 3, 9, 11] [] [⟨0, 1, 2361183241434822606848, 5⟩, ⟨1, 2361183241434822606848, 4722366482869645213696, 5⟩, ⟨2, 4722366482869645213696, 9444732965739290427392, 5⟩, ⟨4, 9444732965739290427392, 18889465931478580854784, 6⟩, ⟨0, 512, 37778931862957161709568, 5⟩, ⟨0, 2048, 75557863725914323419136, 5⟩, ⟨48, 113336795588871485128704, 151115727451828646838272, 5⟩, ⟨64, 151115727451828646838272, 302231454903657293676544, 6⟩, ⟨0, 4, 604462909807314587353088, 5⟩, ⟨511, 321120920835135874531328, 1208925819614629174706176, 5⟩, ⟨1023, 1208925819614629174706176, 2417851639229258349412352, 5⟩, ⟨1535, 3022314549036572936765440, 0, 0⟩] (.take 0 (.take 1 (.take 2 (.take 3 (.take 4 (.take 5 (.take 6 (.take 7 (.take 8 (.take 9 (.take 10 (.fork (.alt 11 (.done) (.nil)))))))))))))) (.run [0, 1, 2, 3, 4, 5, 6, 7, 8, 9, 10, 11] (.done)) ?_;simp only [drs]));simp (maxSteps := 1000000) [hF, hin, hlt, eH, hn2, hyP, hyl, hset, hw2])
         refine nextK.of [0, 2, 3, 9, 11] [0] (m - 1) (by omega) (by simp [hF]) ?_
         refine ⟨i + 1, _, by omega, hst, ?_⟩
         simp [eH]
        ·have hPf : P = paint (ownF t) L h.things := by rw [hP, List.take_of_length_le (by omega)]
         have hpu : putOf { h with things := paint (ownF t) L h.things } t k = ⟨h.rooms.set t ⟨h.rooms[t].queue ++ [(k : Int)], h.rooms[t].over⟩, paint (ownF t) L h.things⟩ := by simp [putOf, setRm, htl]
         rw [hpu] at hc
         have hs3 := eRmsF_set (flSet fl t false) h.rooms t (h.rooms[t].queue ++ [(k : Int)]) h.rooms[t].over true
         have hp := dInts_app1 h.rooms[t].queue k
         have hm : (dInts (h.rooms[t].queue ++ [(k : Int)])).mid 0 (h.rooms[t].queue.length + 1) = dInts (h.rooms[t].queue ++ [(k : Int)]) := sq_mid_all _ _ (by simp)
         have hm0 : (dInts h.rooms[t].queue).mid 0 h.rooms[t].queue.length = dInts h.rooms[t].queue := by simp
         have c1 : (h.rooms[t].queue.length + 1) * 8 ≤ 140737488355328 := by omega
         have c2 : h.rooms[t].queue.length ≤ 9223372036854775806 := by omega
         repeat first|refine n1 ?_|refine n7 ?_|((refine dr 15 0 [0, 2, 3] [] [] [⟨0, 1, 4835703278458516698824704, 5⟩, ⟨1, 4835703278458516698824704, 9671406556917033397649408, 5⟩, ⟨2, 9671406556917033397649408, 19342813113834066795298816, 5⟩, ⟨4, 19342813113834066795298816, 38685626227668133590597632, 6⟩, ⟨0, 4, 77371252455336267181195264, 5⟩, ⟨0, 1, 154742504910672534362390528, 5⟩, ⟨32, 154742504910672534362390528, 309485009821345068724781056, 5⟩, ⟨64, 309485009821345068724781056, 618970019642690137449562112, 5⟩, ⟨128, 618970019642690137449562112, 1237940039285380274899124224, 6⟩, ⟨0, 4, 2475880078570760549798248448, 5⟩, ⟨768, 3713820117856140824697372672, 4951760157141521099596496896, 5⟩, ⟨1024, 4951760157141521099596496896, 9903520314283042199192993792, 5⟩, ⟨2048, 9903520314283042199192993792, 19807040628566084398385987584, 6⟩, ⟨4096, 19807040628566084398385987584, 39614081257132168796771975168, 0⟩, ⟨0, 8, 79228162514264337593543950336, 5⟩, ⟨16384, 79228162514264337593543950336, 158456325028528675187087900672, 4⟩, ⟨40960, 198070406285660843983859875840, 316912650057057350374175801344, 0⟩, ⟨131071, 116056878683004400771792896, 633825300114114700748351602688, 5⟩, ⟨262143, 633825300114114700748351602688, 1267650600228229401496703205376, 5⟩, ⟨393215, 1584563250285286751870879006720, 0, 0⟩] (.take 0 (.take 1 (.take 2 (.take 4 (.take 5 (.take 6 (.take 7 (.take 8 (.take 9 (.take 10 (.take 11 (.take 12 (.take 14 (.fork (.alt 3 (.fork (.alt 13 (.fork (.alt 15 (.fork (.alt 16 (.take 17 (.take 18 (.fork (.alt 19 (.done) (.nil))))) (.nil))) (.nil))) (.alt 15 (.fork (.alt 13 (.fork (.alt 16 (.take 17 (.take 18 (.fork (.alt 19 (.done) (.nil))))) (.nil))) (.nil))) (.nil)))) (.alt 13 (.fork (.alt 3 (.fork (.alt 15 (.fork (.alt 16 (.take 17 (.take 18 (.fork (.alt 19 (.done) (.nil))))) (.nil))) (.nil))) (.alt 15 (.fork (.alt 3 (.fork (.alt 16 (.take 17 (.take 18 (.fork (.alt 19 (.done) (.nil))))) (.nil))) (.alt 16 (.take 3 (.take 17 (.take 18 (.fork (.alt 19 (.done) (.nil)))))) (.nil)))) (.nil)))) (.alt 15 (.fork (.alt 3 (.fork (.alt 13 (.fork (.alt 16 (.take 17 (.take 18 (.fork (.alt 19 (.done) (.nil))))) (.nil))) (.nil))) (.alt 13 (.fork (.alt 3 (.fork (.alt 16 (.take 17 (.take 18 (.fork (.alt 19 (.done) (.nil))))) (.nil))) (.alt 16 (.take 3 (.take 17 (.take 18 (.fork (.alt 19 (.done) (.nil)))))) (.nil)))) (.nil)))) (.nil)))))))))))))))))) (.run [0, 1, 2, 4, 5, 6, 7, 8, 9, 10, 11, 12, 14] (.both (.run [3] (.both (.run [13, 15, 16, 17, 18, 19] (.done)) (.run [15, 13, 16, 17, 18, 19] (.done)))) (.both (.run [13] (.both (.run [3, 15, 16, 17, 18, 19] (.done)) (.run [15] (.both (.run [3, 16, 17, 18, 19] (.done)) (.run [16, 3, 17, 18, 19] (.done)))))) (.run [15] (.both (.run [3, 13, 16, 17, 18, 19] (.done)) (.run [13] (.both (.run [3, 16, 17, 18, 19] (.done)) (.run [16, 3, 17, 18, 19] (.done))))))))) ?_;simp only [drs]);simp (maxSteps := 1000000) [hF, eH, hnr2, htl])
         have hq8 : h.rooms[t].queue.length ≤ 100000000 := by omega
         all_goals (repeat' refine And.intro ?_ ?_)
         all_goals (refine (eown_ok false h.rooms[t].queue hq8).go [] (by simp (maxSteps := 1000000) [hF, hnr2, htl, hm0, hp, hm, c1, c2, hs3]) ?_;rintro av X κ ⟨rfl, rfl, rfl⟩;simp (maxSteps := 1000000) [hF, hnr2, htl, hm0, hp, hm, c1, c2, hs3])
         all_goals (repeat' refine And.intro ?_ ?_)
         all_goals (repeat first|refine n1 ?_|(refine rg 16 [] [8] [] ?_;simp (maxSteps := 1000000) [hF, hnr2, htl, hm0, hp, hm, c1, c2, hs3]))
         all_goals (refine VS.widen [(0, [.d])] (by simp [covers, mpre]) ?_)
         all_goals ((try refine nr ?_);(repeat first|refine nb_ ?_|refine nl_ ?_);refine endK.o [8] [0] [(0, [.d])] ?_;simp [hF, retK, covers, mpre, eH, hc, hPf])
         all_goals exact ⟨_, rfl⟩
      ·have hc : moveE h w t k = (h, sendingE h w t k) := by simp [moveE, hr, hr2, ht, hL, htd, hz]
       repeat first|refine n1 ?_|((first|refine rg 7 [0, 2, 3, 9, 10] [0, 2, 3, 9, 10, 53] [] ?_|refine rg 8 [10] [8] [] ?_|refine nc ?_);simp (maxSteps := 1000000) [hF, hz])
       refine VS.widen [(0, [.d])] (by simp [covers, mpre]) ?_
       (try refine nr ?_);(repeat first|refine nb_ ?_|refine nl_ ?_);refine endK.o [8] [0] [(0, [.d])] ?_;simp [hF, retK, covers, mpre, eH, hc]
       exact ⟨_, rfl⟩
    ·repeat first|refine n1 ?_|refine n2 ?_|((first|refine rg 4 [0, 1, 2, 3, 9] [0, 1, 2, 3, 9, 46] [(10, 41)] ?_|refine rg 6 [0, 1, 2, 3, 9] [0, 2, 3, 9, 10] [] ?_|refine nc ?_);simp (maxSteps := 1000000) [hF, hn, hk, ho])
     have hse : (if overB h t = true then 8 else stateOf h w [(k : Int)]) = sendingE h w t k := rfl
     refine (esending_c h fl w t hwl htl k ht).go [(0, [])] (by simp (maxSteps := 1000000) [hF, eH, hse]) ?_;rintro av X κ ⟨rfl, rfl, rfl⟩;simp (maxSteps := 1000000) [hF, eH, hse]
     by_cases hz : sendingE h w t k = 0
     ·have hself : h.rooms.set t ⟨h.rooms[t].queue, h.rooms[t].over⟩ = h.rooms := List.set_getElem_self _
      have hs0 := eRmsF_set fl h.rooms t h.rooms[t].queue h.rooms[t].over false
      rw [hself] at hs0
      have hnr2 := eRmsF_nth (fl := flSet fl t false) htl
      rw [show flSet fl t false t = false by simp [flSet]] at hnr2
      repeat first|refine n1 ?_|refine n2 ?_|((first|refine rg 7 [0, 2, 3, 9, 10] [0, 2, 3, 9, 10, 53] [] ?_|refine nc ?_);simp (maxSteps := 1000000) [hF, hz])
      refine VS.cold 0 [.d, .f 1, .i t, .f 1] (by simp (maxSteps := 1000000) [hF, hnr, htl, T.freeze, hs0]) (by simp (maxSteps := 1000000) [hF, hnr, htl, T.freeze, hs0]) (by simp (maxSteps := 1000000) [hF, hnr, htl, T.freeze, hs0]) ?_;simp [hF, St.cold, hnr, htl, T.freeze, hs0]
      by_cases hq : 50 ≤ h.rooms[t].queue.length
      ·have hqi : (50 : Int) ≤ h.rooms[t].queue.length := by omega
       have hc : moveE h w t k = (h, 9) := by simp [moveE, hr, hr2, ht, hk, ho, hz, htl, hq]
       repeat first|refine n1 ?_|((first|refine rg 9 [0, 2, 3, 9] [0, 2, 3, 9, 64] [] ?_|refine rg 10 [] [8] [] ?_|refine nc ?_);simp (maxSteps := 1000000) [hF, hnr2, htl, hqi, hs0])
       refine VS.widen [(0, [.d])] (by simp [covers, mpre]) ?_
       (try refine nr ?_);(repeat first|refine nb_ ?_|refine nl_ ?_);refine endK.o [8] [0] [(0, [.d])] ?_;simp [hF, retK, covers, mpre, eH, hc]
       exact ⟨_, rfl⟩
      ·have hqi : ¬ (50 : Int) ≤ h.rooms[t].queue.length := by omega
       have hc : moveE h w t k = (putOf { h with things := paint (ownF t) L h.things } t k, 0) := by simp [moveE, hr, hr2, ht, hk, ho, hz, htl, hq, hL]
       repeat first|refine n1 ?_|refine n2 ?_|refine n3 ?_|((first|refine rg 9 [0, 2, 3, 9] [0, 2, 3, 9, 64] [] ?_|refine rg 11 [0, 2, 3, 9] [0, 2, 3, 9, 11] [] ?_|refine nc ?_);simp (maxSteps := 1000000) [hF, hnr2, htl, hqi, hs0])
       refine VS.widen [(0, [.d])] (by simp [covers, mpre]) ?_
       refine VS.pick [0, 2, 3, 9, 11] [0] (by simp [hF]) ?_;simp [hF]
       refine VS.rounds (fun m st => ∃ (i : Nat) (P : List Tg), i + m = L.length ∧ P = paint (ownF t) (L.take i) h.things ∧ st = ⟨[(0, .ptr 0 [.d]), (2, avInt t), (3, avInt k), (9, .imm 1 (dInts L) false), (11, avInt i)], [eH ⟨h.rooms, P⟩ (flSet fl t false)], [(0, [.d])], []⟩) ⟨L.length, 0, h.things, by omega, by simp [paint_nil], by simp [eH]⟩ ?_
       rintro m st ⟨i, P, hi, hP, rfl⟩
       have hPl : P.length = h.things.length := by simp [hP]
       repeat first|refine n1 ?_|((first|refine rg 12 [0, 2, 3, 9, 11] [0, 2, 3, 9, 11, 68] [] ?_|refine nc ?_);simp (maxSteps := 1000000) [hF])
       refine ⟨fun hlt => ?_, fun hge => ?_⟩
       ·obtain ⟨y, hy, hyl⟩ := hLv i hlt
        have hyP : y < P.length := by omega
        have hn2 := eTgs_nth (o := true) hyP
        have hin : (dInts L).nth i = .val (.int .i64 y) := by rw [dInts_nth hlt, hy]
        have hw2 : IntKind.i64.wrap ((i : Int) + 1) = (i + 1 : Nat) := by rw [IntWalk.i64_in _ (by omega)]; rfl
        have hset := eTgs_set true P y t P[y].list P[y].word P[y].items P[y].frozen
        have hst : P.set y ⟨t, P[y].list, P[y].word, P[y].items, P[y].frozen⟩ = paint (ownF t) (L.take (i + 1)) h.things := by
         have e : L.take (i + 1) = L.take i ++ [(y : Int)] := by rw [List.take_add_one, List.getElem?_eq_getElem hlt, hy]; rfl
         rw [e, ← paint_step (f := ownF t) (fun _ => rfl) hyl]
         subst hP; rfl
        repeat first|refine n1 ?_|refine n2 ?_|refine n3 ?_|refine n4 ?_|refine n5 ?_|refine n6 ?_|((first|refine rg 13 [0, 2, 3, 9, 11] [0, 2, 3, 9, 11] [] ?_|(refine dr 14 0 [0, 2, 3, 9, 11] [0, 2, 3, 9, 11] [] [⟨0, 1, 2361183241434822606848, 5⟩, ⟨1, 2361183241434822606848, 4722366482869645213696, 5⟩, ⟨2, 4722366482869645213696, 9444732965739290427392, 5⟩, ⟨4, 9444732965739290427392, 18889465931478580854784, 6⟩, ⟨0, 512, 37778931862957161709568, 5⟩, ⟨0, 2048, 75557863725914323419136, 5⟩, ⟨48, 113336795588871485128704, 151115727451828646838272, 5⟩, ⟨64, 151115727451828646838272, 302231454903657293676544, 6⟩, ⟨0, 4, 604462909807314587353088, 5⟩, ⟨511, 321120920835135874531328, 1208925819614629174706176, 5⟩, ⟨1023, 1208925819614629174706176, 2417851639229258349412352, 5⟩, ⟨1535, 3022314549036572936765440, 0, 0⟩] (.take 0 (.take 1 (.take 2 (.take 3 (.take 4 (.take 5 (.take 6 (.take 7 (.take 8 (.take 9 (.take 10 (.fork (.alt 11 (.done) (.nil)))))))))))))) (.run [0, 1, 2, 3, 4, 5, 6, 7, 8, 9, 10, 11] (.done)) ?_;simp only [drs]));simp (maxSteps := 1000000) [hF, hin, hlt, eH, hn2, hyP, hyl, hset, hw2])
        refine nextK.of [0, 2, 3, 9, 11] [0] (m - 1) (by omega) (by simp [hF]) ?_
        refine ⟨i + 1, _, by omega, hst, ?_⟩
        simp [eH]
       ·have hPf : P = paint (ownF t) L h.things := by rw [hP, List.take_of_length_le (by omega)]
        have hpu : putOf { h with things := paint (ownF t) L h.things } t k = ⟨h.rooms.set t ⟨h.rooms[t].queue ++ [(k : Int)], h.rooms[t].over⟩, paint (ownF t) L h.things⟩ := by simp [putOf, setRm, htl]
        rw [hpu] at hc
        have hs3 := eRmsF_set (flSet fl t false) h.rooms t (h.rooms[t].queue ++ [(k : Int)]) h.rooms[t].over true
        have hp := dInts_app1 h.rooms[t].queue k
        have hm : (dInts (h.rooms[t].queue ++ [(k : Int)])).mid 0 (h.rooms[t].queue.length + 1) = dInts (h.rooms[t].queue ++ [(k : Int)]) := sq_mid_all _ _ (by simp)
        have hm0 : (dInts h.rooms[t].queue).mid 0 h.rooms[t].queue.length = dInts h.rooms[t].queue := by simp
        have c1 : (h.rooms[t].queue.length + 1) * 8 ≤ 140737488355328 := by omega
        have c2 : h.rooms[t].queue.length ≤ 9223372036854775806 := by omega
        repeat first|refine n1 ?_|refine n7 ?_|((refine dr 15 0 [0, 2, 3] [] [] [⟨0, 1, 4835703278458516698824704, 5⟩, ⟨1, 4835703278458516698824704, 9671406556917033397649408, 5⟩, ⟨2, 9671406556917033397649408, 19342813113834066795298816, 5⟩, ⟨4, 19342813113834066795298816, 38685626227668133590597632, 6⟩, ⟨0, 4, 77371252455336267181195264, 5⟩, ⟨0, 1, 154742504910672534362390528, 5⟩, ⟨32, 154742504910672534362390528, 309485009821345068724781056, 5⟩, ⟨64, 309485009821345068724781056, 618970019642690137449562112, 5⟩, ⟨128, 618970019642690137449562112, 1237940039285380274899124224, 6⟩, ⟨0, 4, 2475880078570760549798248448, 5⟩, ⟨768, 3713820117856140824697372672, 4951760157141521099596496896, 5⟩, ⟨1024, 4951760157141521099596496896, 9903520314283042199192993792, 5⟩, ⟨2048, 9903520314283042199192993792, 19807040628566084398385987584, 6⟩, ⟨4096, 19807040628566084398385987584, 39614081257132168796771975168, 0⟩, ⟨0, 8, 79228162514264337593543950336, 5⟩, ⟨16384, 79228162514264337593543950336, 158456325028528675187087900672, 4⟩, ⟨40960, 198070406285660843983859875840, 316912650057057350374175801344, 0⟩, ⟨131071, 116056878683004400771792896, 633825300114114700748351602688, 5⟩, ⟨262143, 633825300114114700748351602688, 1267650600228229401496703205376, 5⟩, ⟨393215, 1584563250285286751870879006720, 0, 0⟩] (.take 0 (.take 1 (.take 2 (.take 4 (.take 5 (.take 6 (.take 7 (.take 8 (.take 9 (.take 10 (.take 11 (.take 12 (.take 14 (.fork (.alt 3 (.fork (.alt 13 (.fork (.alt 15 (.fork (.alt 16 (.take 17 (.take 18 (.fork (.alt 19 (.done) (.nil))))) (.nil))) (.nil))) (.alt 15 (.fork (.alt 13 (.fork (.alt 16 (.take 17 (.take 18 (.fork (.alt 19 (.done) (.nil))))) (.nil))) (.nil))) (.nil)))) (.alt 13 (.fork (.alt 3 (.fork (.alt 15 (.fork (.alt 16 (.take 17 (.take 18 (.fork (.alt 19 (.done) (.nil))))) (.nil))) (.nil))) (.alt 15 (.fork (.alt 3 (.fork (.alt 16 (.take 17 (.take 18 (.fork (.alt 19 (.done) (.nil))))) (.nil))) (.alt 16 (.take 3 (.take 17 (.take 18 (.fork (.alt 19 (.done) (.nil)))))) (.nil)))) (.nil)))) (.alt 15 (.fork (.alt 3 (.fork (.alt 13 (.fork (.alt 16 (.take 17 (.take 18 (.fork (.alt 19 (.done) (.nil))))) (.nil))) (.nil))) (.alt 13 (.fork (.alt 3 (.fork (.alt 16 (.take 17 (.take 18 (.fork (.alt 19 (.done) (.nil))))) (.nil))) (.alt 16 (.take 3 (.take 17 (.take 18 (.fork (.alt 19 (.done) (.nil)))))) (.nil)))) (.nil)))) (.nil)))))))))))))))))) (.run [0, 1, 2, 4, 5, 6, 7, 8, 9, 10, 11, 12, 14] (.both (.run [3] (.both (.run [13, 15, 16, 17, 18, 19] (.done)) (.run [15, 13, 16, 17, 18, 19] (.done)))) (.both (.run [13] (.both (.run [3, 15, 16, 17, 18, 19] (.done)) (.run [15] (.both (.run [3, 16, 17, 18, 19] (.done)) (.run [16, 3, 17, 18, 19] (.done)))))) (.run [15] (.both (.run [3, 13, 16, 17, 18, 19] (.done)) (.run [13] (.both (.run [3, 16, 17, 18, 19] (.done)) (.run [16, 3, 17, 18, 19] (.done))))))))) ?_;simp only [drs]);simp (maxSteps := 1000000) [hF, eH, hnr2, htl])
        have hq8 : h.rooms[t].queue.length ≤ 100000000 := by omega
        all_goals (repeat' refine And.intro ?_ ?_)
        all_goals (refine (eown_ok false h.rooms[t].queue hq8).go [] (by simp (maxSteps := 1000000) [hF, hnr2, htl, hm0, hp, hm, c1, c2, hs3]) ?_;rintro av X κ ⟨rfl, rfl, rfl⟩;simp (maxSteps := 1000000) [hF, hnr2, htl, hm0, hp, hm, c1, c2, hs3])
        all_goals (repeat' refine And.intro ?_ ?_)
        all_goals (repeat first|refine n1 ?_|(refine rg 16 [] [8] [] ?_;simp (maxSteps := 1000000) [hF, hnr2, htl, hm0, hp, hm, c1, c2, hs3]))
        all_goals (refine VS.widen [(0, [.d])] (by simp [covers, mpre]) ?_)
        all_goals ((try refine nr ?_);(repeat first|refine nb_ ?_|refine nl_ ?_);refine endK.o [8] [0] [(0, [.d])] ?_;simp [hF, retK, covers, mpre, eH, hc, hPf])
        all_goals exact ⟨_, rfl⟩
     ·have hc : moveE h w t k = (h, sendingE h w t k) := by simp [moveE, hr, hr2, ht, hk, ho, hz]
      repeat first|refine n1 ?_|((first|refine rg 7 [0, 2, 3, 9, 10] [0, 2, 3, 9, 10, 53] [] ?_|refine rg 8 [10] [8] [] ?_|refine nc ?_);simp (maxSteps := 1000000) [hF, hz])
      refine VS.widen [(0, [.d])] (by simp [covers, mpre]) ?_
      (try refine nr ?_);(repeat first|refine nb_ ?_|refine nl_ ?_);refine endK.o [8] [0] [(0, [.d])] ?_;simp [hF, retK, covers, mpre, eH, hc]
      exact ⟨_, rfl⟩
theorem esend_ok (h : Hs) (fl : Nat → Bool) (hok : Hok h) (who to x : Int) : Meets Try.prog 59 [eH h fl] (.cons (.ptr 0 [.d]) (.cons (avInt who) (.cons (avInt to) (.cons (avInt x) .nil))))
  fun av X κ => ∃ fl', av = two (sendE h who to x).2 ∧ X = [eH (sendE h who to x).1 fl'] ∧ κ = [(0, [.d])] := by
 refine fb Try.func59 Try.ntmps59 [.tmp 8, .tmp 9] fun w0 I0 F0 hF => ?_
 repeat first|refine n1 ?_|((first|refine rg 0 [0, 1, 2, 3] [0, 1, 2, 3] [] ?_|refine rg 1 [0, 1, 2, 3] [0, 1, 2, 3, 32] [(4, 21), (10, 27)] ?_);simp (maxSteps := 1000000) [hF])
 cases hr : isR h who with
 | false =>
  have hc : sendE h who to x = (h, 0, 1) := by simp [sendE, hr]
  refine (ewho_c h fl who).go [(0, [])] (by simp (maxSteps := 1000000) [hF, hr, eH]) ?_;rintro av X κ ⟨rfl, rfl, rfl⟩;simp (maxSteps := 1000000) [hF, hr, eH]
  repeat first|refine n1 ?_|((first|refine rg 2 [] [8, 9] [] ?_|refine nc ?_);simp (maxSteps := 1000000) [hF])
  refine VS.widen [(0, [.d])] (by simp [covers, mpre]) ?_
  (try refine nr ?_);(repeat first|refine nb_ ?_|refine nl_ ?_);refine endK.o [8, 9] [0] [(0, [.d])] ?_;simp [hF, retK, covers, mpre, eH, hc]
  exact ⟨_, rfl⟩
 | true =>
  obtain ⟨w, rfl, hwl⟩ := isR_nat hr
  refine (ewho_c h fl w).go [(0, [])] (by simp (maxSteps := 1000000) [hF, hr, eH]) ?_;rintro av X κ ⟨rfl, rfl, rfl⟩;simp (maxSteps := 1000000) [hF, hr, eH]
  cases hr2 : isR h to with
  | false =>
   have hc : sendE h w to x = (h, 0, 1) := by simp [sendE, hr2]
   refine (ewho_c h fl to).go [(0, [])] (by simp (maxSteps := 1000000) [hF, hr2, eH]) ?_;rintro av X κ ⟨rfl, rfl, rfl⟩;simp (maxSteps := 1000000) [hF, hr2, eH]
   repeat first|refine n1 ?_|((first|refine rg 2 [] [8, 9] [] ?_|refine nc ?_);simp (maxSteps := 1000000) [hF])
   refine VS.widen [(0, [.d])] (by simp [covers, mpre]) ?_
   (try refine nr ?_);(repeat first|refine nb_ ?_|refine nl_ ?_);refine endK.o [8, 9] [0] [(0, [.d])] ?_;simp [hF, retK, covers, mpre, eH, hc]
   exact ⟨_, rfl⟩
  | true =>
   obtain ⟨t, rfl, htl⟩ := isR_nat hr2
   refine (ewho_c h fl t).go [(0, [])] (by simp (maxSteps := 1000000) [hF, hr2, eH]) ?_;rintro av X κ ⟨rfl, rfl, rfl⟩;simp (maxSteps := 1000000) [hF, hr2, eH]
   cases ht : isT h x with
   | false =>
    have hc : sendE h w t x = (h, 0, 1) := by simp [sendE, ht]
    refine (ething_c h fl x).go [(0, [])] (by simp (maxSteps := 1000000) [hF, ht, eH]) ?_;rintro av X κ ⟨rfl, rfl, rfl⟩;simp (maxSteps := 1000000) [hF, ht, eH]
    repeat first|refine n1 ?_|((first|refine rg 2 [] [8, 9] [] ?_|refine nc ?_);simp (maxSteps := 1000000) [hF])
    refine VS.widen [(0, [.d])] (by simp [covers, mpre]) ?_
    (try refine nr ?_);(repeat first|refine nb_ ?_|refine nl_ ?_);refine endK.o [8, 9] [0] [(0, [.d])] ?_;simp [hF, retK, covers, mpre, eH, hc]
    exact ⟨_, rfl⟩
   | true =>
    obtain ⟨k, rfl, hk⟩ := isT_nat ht
    refine (ething_c h fl k).go [(0, [])] (by simp (maxSteps := 1000000) [hF, ht, eH]) ?_;rintro av X κ ⟨rfl, rfl, rfl⟩;simp (maxSteps := 1000000) [hF, ht, eH]
    repeat first|refine n1 ?_|refine n2 ?_|((first|refine rg 3 [0, 1, 2, 3] [0, 2, 3, 10] [] ?_|refine nc ?_);simp (maxSteps := 1000000) [hF])
    have hse : (if overB h t = true then 8 else stateOf h w [(k : Int)]) = sendingE h w t k := rfl
    refine (esending_c h fl w t hwl htl k ht).go [(0, [])] (by simp (maxSteps := 1000000) [hF, eH, hse]) ?_;rintro av X κ ⟨rfl, rfl, rfl⟩;simp (maxSteps := 1000000) [hF, eH, hse]
    by_cases hz : sendingE h w t k = 0
    ·have hnr := eRmsF_nth (fl := fl) htl
     have hrl := reachE_len hok false hk
     have hLv : ∀ i, (hi : i < (reachE h.things false (k : Int)).length) → ∃ y : Nat, (reachE h.things false (k : Int))[i] = y ∧ y < h.things.length := fun i hi => reachE_nat hok false hk hi
     repeat first|refine n1 ?_|refine n2 ?_|((first|refine rg 4 [0, 2, 3, 10] [0, 2, 3, 10, 39] [] ?_|refine rg 6 [0, 2, 3] [0, 2, 3, 11] [] ?_|refine nc ?_);simp (maxSteps := 1000000) [hF, hz])
     refine (ereach_c h fl hok false k hk).go [(0, [])] (by simp (maxSteps := 1000000) [hF, eH]) ?_;rintro av X κ ⟨rfl, rfl, rfl⟩;simp (maxSteps := 1000000) [hF, eH]
     repeat first|refine n1 ?_|(refine rg 7 [0, 2, 3, 11] [0, 2, 3, 11, 12] [] ?_;simp (maxSteps := 1000000) [hF, eH])
     refine VS.cool 11 (by simp (maxSteps := 1000000) [hF]) ?_;simp [hF, St.cool]
     generalize hL : reachE h.things false (k : Int) = L at *
     have hbd := hok.things
     have hse2 : h.rooms.set t ⟨h.rooms[t].queue, h.rooms[t].over⟩ = h.rooms := List.set_getElem_self _
     have hs0 := eRmsF_set fl h.rooms t h.rooms[t].queue h.rooms[t].over false
     rw [hse2] at hs0
     have hnr2 := eRmsF_nth (fl := flSet fl t false) htl
     rw [show flSet fl t false t = false by simp [flSet]] at hnr2
     refine VS.cold 0 [.d, .f 1, .i t, .f 1] (by simp (maxSteps := 1000000) [hF, hnr, htl, T.freeze, hs0, eH]) (by simp (maxSteps := 1000000) [hF, hnr, htl, T.freeze, hs0, eH]) (by simp (maxSteps := 1000000) [hF, hnr, htl, T.freeze, hs0, eH]) ?_;simp [hF, St.cold, hnr, htl, T.freeze, hs0, eH]
     by_cases hq : 50 ≤ h.rooms[t].queue.length
     ·have hqi : (50 : Int) ≤ h.rooms[t].queue.length := by omega
      have hc : sendE h w t k = (h, 0, 9) := by simp [sendE, hr, hr2, ht, hL, hz, htl, hq]
      repeat first|refine n1 ?_|((first|refine rg 8 [0, 2, 3, 11, 12] [0, 2, 3, 11, 12, 65] [(10, 59)] ?_|refine rg 9 [] [8, 9] [] ?_|refine nc ?_);simp (maxSteps := 1000000) [hF, hnr2, htl, hqi, hs0, eH])
      refine VS.widen [(0, [.d])] (by simp [covers, mpre]) ?_
      (try refine nr ?_);(repeat first|refine nb_ ?_|refine nl_ ?_);refine endK.o [8, 9] [0] [(0, [.d])] ?_;simp [hF, retK, covers, mpre, eH, hc]
      exact ⟨_, rfl⟩
     ·have hqi : ¬ (50 : Int) ≤ h.rooms[t].queue.length := by omega
      have hw1 : IntKind.i64.wrap ((h.things.length : Int) + L.length) = h.things.length + L.length := IntWalk.i64_in _ (by omega)
      by_cases hf : 400 < h.things.length + L.length
      ·have hfi : (400 : Int) < h.things.length + L.length := by omega
       have hc : sendE h w t k = (h, 0, 9) := by simp [sendE, hr, hr2, ht, hL, hz, htl, hq, hf]
       repeat first|refine n1 ?_|((first|refine rg 8 [0, 2, 3, 11, 12] [0, 2, 3, 11, 12, 65] [(10, 59)] ?_|refine rg 9 [] [8, 9] [] ?_|refine nc ?_);simp (maxSteps := 1000000) [hF, hnr2, htl, hqi, hs0, eH, hw1, hfi])
       refine VS.widen [(0, [.d])] (by simp [covers, mpre]) ?_
       (try refine nr ?_);(repeat first|refine nb_ ?_|refine nl_ ?_);refine endK.o [8, 9] [0] [(0, [.d])] ?_;simp [hF, retK, covers, mpre, eH, hc]
       exact ⟨_, rfl⟩
      ·have hfi : ¬ (400 : Int) < h.things.length + L.length := by omega
       obtain ⟨CS, hCS⟩ : ∃ CS, CS = L.map fun y => copyT L h.things.length t (gd h.things y) := ⟨_, rfl⟩
       have hCl : CS.length = L.length := by simp [hCS]
       have hnd : L.Nodup := by subst hL; exact rV_nodup _ _ _ (by simp)
       repeat first|refine n1 ?_|refine n2 ?_|refine n3 ?_|((first|refine rg 8 [0, 2, 3, 11, 12] [0, 2, 3, 11, 12, 65] [(10, 59)] ?_|refine rg 10 [0, 2, 3, 11, 12] [0, 2, 3, 11, 12, 13] [] ?_|refine nc ?_);simp (maxSteps := 1000000) [hF, hnr2, htl, hqi, hs0, eH, hw1, hfi])
       refine VS.widen [(0, [.d])] (by simp [covers, mpre]) ?_
       refine VS.pick [0, 2, 3, 11, 12, 13] [0] (by simp [hF]) ?_;simp [hF]
       refine VS.rounds (fun m st => ∃ (i : Nat) (P : List Tg), i + m = L.length ∧ P = h.things ++ CS.take i ∧ st = ⟨[(0, .ptr 0 [.d]), (2, avInt t), (3, avInt k), (11, .imm 1 (dInts L) false), (12, avInt h.things.length), (13, avInt i)],
        [eH ⟨h.rooms, P⟩ (flSet fl t false)], [(0, [.d])], []⟩) ⟨L.length, 0, h.things, by omega, by simp, by simp [eH]⟩ ?_
       rintro m st ⟨i, P, hi, hP, rfl⟩
       have hPl : P.length = h.things.length + i := by rw [hP, List.length_append, List.length_take]; omega
       repeat first|refine n1 ?_|((first|refine rg 11 [0, 2, 3, 11, 12, 13] [0, 2, 3, 11, 12, 13, 69] [] ?_|refine nc ?_);simp (maxSteps := 1000000) [hF])
       refine ⟨fun hlt => ?_, fun hge => ?_⟩
       ·obtain ⟨y, hy, hyl⟩ := hLv i hlt
        have hyP : y < P.length := by omega
        have hn2 := eTgs_nth (o := true) hyP
        have hPy : P[y] = h.things[y] := by subst hP; rw [List.getElem_append_left hyl]
        rw [hPy] at hn2
        have hil := hok.few _ (List.getElem_mem hyl)
        have hin : (dInts L).nth i = .val (.int .i64 y) := by rw [dInts_nth hlt, hy]
        obtain ⟨IS, hIS⟩ : ∃ IS, IS = h.things[y].items := ⟨_, rfl⟩
        obtain ⟨MS, hMS⟩ : ∃ MS, MS = IS.map (placeOf L h.things.length) := ⟨_, rfl⟩
        have hMl : MS.length = IS.length := by simp [hMS]
        rw [← hIS] at hn2 hil
        have hsame := setN_of hn2
        repeat first|refine n1 ?_|refine n2 ?_|refine n3 ?_|((first|(refine dr 13 0 [0, 2, 3, 11, 12, 13] [0, 2, 3, 11, 12, 13, 14] [] [⟨0, 1, 4722366482869645213696, 5⟩, ⟨1, 4722366482869645213696, 9444732965739290427392, 5⟩, ⟨2, 9444732965739290427392, 18889465931478580854784, 5⟩, ⟨4, 18889465931478580854784, 37778931862957161709568, 6⟩, ⟨0, 2048, 75557863725914323419136, 5⟩, ⟨0, 8192, 151115727451828646838272, 5⟩, ⟨48, 226673591177742970257408, 302231454903657293676544, 5⟩, ⟨64, 302231454903657293676544, 604462909807314587353088, 6⟩, ⟨136, 642241841670271749062656, 1208925819614629174706176, 5⟩, ⟨256, 1208925819614629174706176, 2417851639229258349412352, 6⟩, ⟨0, 0, 16384, 4⟩, ⟨2047, 2417851639229258349428736, 0, 0⟩] (.take 0 (.take 1 (.take 2 (.take 3 (.take 4 (.take 5 (.take 6 (.take 7 (.take 8 (.take 9 (.fork (.alt 10 (.fork (.alt 11 (.done) (.nil))) (.nil))))))))))))) (.run [0, 1, 2, 3, 4, 5, 6, 7, 8, 9, 10, 11] (.done)) ?_;simp only [drs])|refine rg 14 [0, 2, 3, 11, 12, 13, 14] [0, 2, 3, 11, 12, 13, 14] [] ?_|refine rg 15 [0, 2, 3, 11, 12, 13, 14] [0, 2, 3, 11, 12, 13, 14] [] ?_);simp (maxSteps := 1000000) [hF, hin, hlt, eH, hn2, hyP])
        refine (eown_r false IS (by omega)).go [(0, [.d, .f 2, .i y, .f 4])] (by simp (maxSteps := 1000000) [hF, hn2, hyP, hin, hlt, eH, hsame]) ?_;rintro av X κ ⟨rfl, rfl, rfl⟩;simp (maxSteps := 1000000) [hF, hn2, hyP, hin, hlt, eH, hsame]
        repeat first|refine n1 ?_|refine n3 ?_|(refine rg 16 [0, 2, 3, 11, 12, 13, 14] [0, 2, 3, 11, 12, 13, 14, 15] [] ?_;simp (maxSteps := 1000000) [hF, hn2, hyP, hsame])
        refine VS.pick [0, 2, 3, 11, 12, 13, 14, 15] [0, 1] (by simp [hF]) ?_;simp [hF]
        refine VS.rounds (fun m2 st => ∃ (j : Nat) (cur : List Int), j + m2 = IS.length ∧ cur = MS.take j ++ IS.drop j ∧ st = ⟨[(0, .ptr 0 [.d]), (2, avInt t), (3, avInt k), (11, .imm 1 (dInts L) false), (12, avInt h.things.length), (13, avInt i), (14, .ptr 1 [.d]), (15, avInt j)],
         [eH ⟨h.rooms, P⟩ (flSet fl t false), .box true () (.agg (.cons (.val (.bool h.things[y].list)) (.cons (.val (.bool h.things[y].frozen)) (.cons (.val (.int .i64 h.things[y].word)) (.cons (.val (.int .i64 t)) (.cons (.sl true () 1 (dInts cur)) .nil))))))], [(0, [.d])], []⟩)
         ⟨IS.length, 0, IS, by omega, by simp, by simp [eH]⟩ ?_
        rintro m2 st ⟨j, cur, hj, hcur, rfl⟩
        have hcl : cur.length = IS.length := by rw [hcur, List.length_append, List.length_take, List.length_drop]; omega
        repeat first|refine n1 ?_|((first|refine rg 17 [0, 2, 3, 11, 12, 13, 14, 15] [0, 2, 3, 11, 12, 13, 14, 15, 92] [] ?_|refine nc ?_);simp (maxSteps := 1000000) [hF])
        refine ⟨fun hlt2 => ?_, fun hge2 => ?_⟩
        ·have hj' : j < IS.length := by omega
         have hIj := dInts_nth hj'
         obtain ⟨Z, hZ⟩ : ∃ Z, Z = IS[j] := ⟨_, rfl⟩
         rw [← hZ] at hIj
         have hcj : cur[j]'(by omega) = Z := by
          have : cur[j]? = some IS[j] := by
           rw [hcur, List.getElem?_append_right (by rw [List.length_take]; omega), List.getElem?_drop, List.getElem?_eq_getElem (by rw [List.length_take]; omega)]
           congr 2; rw [List.length_take]; omega
          rw [(List.getElem_eq_iff _).2 this, hZ]
         have hMj : cur.set j (placeOf L h.things.length Z) = MS.take (j + 1) ++ IS.drop (j + 1) := by
          rw [hcur, List.set_append_right _ _ (by rw [List.length_take]; omega), List.length_take, Nat.min_eq_left (by omega), Nat.sub_self, List.drop_eq_getElem_cons hj', List.set_cons_zero, List.take_add_one, List.getElem?_eq_getElem (by omega)]
          simp [hMS, hZ]
         repeat first|refine n1 ?_|refine n2 ?_|refine n3 ?_|(refine rg 19 [0, 2, 3, 11, 12, 13, 14, 15] [0, 2, 3, 11, 12, 13, 14, 15, 16] [] ?_;simp (maxSteps := 1000000) [hF])
         refine VS.rounds (fun m3 st => ∃ (q : Nat) (cu2 : List Int), q + m3 = L.length ∧ cu2 = (if 0 ≤ ixE L Z ∧ ixE L Z < q then cur.set j (h.things.length + ixE L Z) else cur) ∧ st = ⟨[(0, .ptr 0 [.d]), (2, avInt t), (3, avInt k), (11, .imm 1 (dInts L) false), (12, avInt h.things.length), (13, avInt i), (14, .ptr 1 [.d]), (15, avInt j), (16, avInt q)],
          [eH ⟨h.rooms, P⟩ (flSet fl t false), .box true () (.agg (.cons (.val (.bool h.things[y].list)) (.cons (.val (.bool h.things[y].frozen)) (.cons (.val (.int .i64 h.things[y].word)) (.cons (.val (.int .i64 t)) (.cons (.sl true () 1 (dInts cu2)) .nil))))))], [(0, [.d])], []⟩)
          ⟨L.length, 0, cur, by omega, by rw [if_neg (by omega)], by simp [eH]⟩ ?_
         rintro m3 st ⟨q, cu2, hq3, hcu2, rfl⟩
         have hcl2 : cu2.length = IS.length := by rw [hcu2]; split <;> simp [hcl]
         repeat first|refine n1 ?_|((first|refine rg 20 [0, 2, 3, 11, 12, 13, 14, 15, 16] [0, 2, 3, 11, 12, 13, 14, 15, 16, 98] [] ?_|refine nc ?_);simp (maxSteps := 1000000) [hF])
         refine ⟨fun hlt3 => ?_, fun hge3 => ?_⟩
         ·have hLq := dInts_nth hlt3
          have hw3 : IntKind.i64.wrap ((q : Int) + 1) = (q + 1 : Nat) := by rw [IntWalk.i64_in _ (by omega)]; rfl
          have hw4 : IntKind.i64.wrap ((h.things.length : Int) + q) = h.things.length + q := IntWalk.i64_in _ (by omega)
          have hjc : j < cu2.length := by omega
          by_cases hEq : L[q] = Z
          ·have hix : ixE L Z = q := by rw [← hEq]; exact ixE_eq hnd hlt3
           have hc0 : cu2 = cur := by rw [hcu2, if_neg (by omega)]
           have hs2 : cu2.set j ((h.things.length : Int) + q) = if 0 ≤ ixE L Z ∧ ixE L Z < (q + 1 : Nat) then cur.set j (h.things.length + ixE L Z) else cur := by rw [if_pos (by omega), hix, hc0]
           have hs3 := dInts_set cu2 j ((h.things.length : Int) + q)
           have hnj := dInts_nth hjc
           repeat first|refine n1 ?_|refine n2 ?_|refine n3 ?_|refine n4 ?_|refine n5 ?_|refine n6 ?_|((first|refine rg 21 [0, 2, 3, 11, 12, 13, 14, 15, 16] [0, 2, 3, 11, 12, 13, 14, 15, 16] [] ?_|(refine dr 22 0 [0, 2, 3, 11, 12, 13, 14, 15, 16] [0, 2, 3, 11, 12, 13, 14, 15, 16, 119] [] [⟨0, 2048, 2535301200456458802993406410752, 5⟩, ⟨0, 65536, 5070602400912917605986812821504, 5⟩, ⟨3, 7605903601369376408980219232256, 10141204801825835211973625643008, 5⟩, ⟨4, 10141204801825835211973625643008, 20282409603651670423947251286016, 6⟩, ⟨0, 1, 40564819207303340847894502572032, 5⟩, ⟨16, 40564819207303340847894502572032, 81129638414606681695789005144064, 5⟩, ⟨32, 81129638414606681695789005144064, 162259276829213363391578010288128, 5⟩, ⟨64, 162259276829213363391578010288128, 324518553658426726783156020576256, 6⟩, ⟨0, 2048, 649037107316853453566312041152512, 5⟩, ⟨0, 8192, 1298074214633706907132624082305024, 5⟩, ⟨768, 1947111321950560360698936123457536, 2596148429267413814265248164610048, 5⟩, ⟨1024, 2596148429267413814265248164610048, 5192296858534827628530496329220096, 6⟩, ⟨2176, 5516815412193254355313652349796352, 10384593717069655257060992658440192, 5⟩, ⟨4096, 10384593717069655257060992658440192, 20769187434139310514121985316880384, 5⟩, ⟨8192, 20769187434139310514121985316880384, 41538374868278621028243970633760768, 6⟩, ⟨0, 32768, 83076749736557242056487941267521536, 5⟩, ⟨49152, 124615124604835863084731911901282304, 166153499473114484112975882535043072, 5⟩, ⟨65536, 166153499473114484112975882535043072, 332306998946228968225951765070086144, 6⟩, ⟨131080, 332327281355832619896375712321372160, 664613997892457936451903530140172288, 5⟩] (.take 0 (.take 1 (.take 2 (.take 3 (.take 4 (.take 5 (.take 6 (.take 7 (.take 8 (.take 9 (.take 10 (.take 11 (.take 12 (.take 13 (.take 14 (.take 15 (.take 16 (.take 17 (.take 18 (.done)))))))))))))))))))) (.run [0, 1, 2, 3, 4, 5, 6, 7, 8, 9, 10, 11, 12, 13, 14, 15, 16, 17, 18] (.done)) ?_;simp only [drs])|refine rg 23 [0, 2, 3, 11, 12, 13, 14, 15, 16] [0, 2, 3, 11, 12, 13, 14, 15, 16] [] ?_|refine nc ?_);simp (maxSteps := 1000000) [hF, hLq, hlt3, hin, hlt, eH, hn2, hyP, hIj, hj', hEq, hcl2, hw3, hw4, hs3, hjc, hnj])
           refine nextK.of [0, 2, 3, 11, 12, 13, 14, 15, 16] [0, 1] (m3 - 1) (by omega) (by simp [hF]) ?_
           refine ⟨q + 1, cu2.set j ((h.things.length : Int) + q), by omega, hs2, ?_⟩
           simp [eH]
          ·have hix := ixE_ne hlt3 hEq
           have hs2 : cu2 = if 0 ≤ ixE L Z ∧ ixE L Z < (q + 1 : Nat) then cur.set j (h.things.length + ixE L Z) else cur := by
            rw [hcu2]
            by_cases h9 : 0 ≤ ixE L Z ∧ ixE L Z < q
            ·rw [if_pos h9, if_pos (by omega)]
            ·rw [if_neg h9, if_neg (by omega)]
           repeat first|refine n1 ?_|refine n2 ?_|refine n3 ?_|refine n4 ?_|refine n5 ?_|refine n6 ?_|((first|refine rg 21 [0, 2, 3, 11, 12, 13, 14, 15, 16] [0, 2, 3, 11, 12, 13, 14, 15, 16] [] ?_|(refine dr 22 0 [0, 2, 3, 11, 12, 13, 14, 15, 16] [0, 2, 3, 11, 12, 13, 14, 15, 16, 119] [] [⟨0, 2048, 2535301200456458802993406410752, 5⟩, ⟨0, 65536, 5070602400912917605986812821504, 5⟩, ⟨3, 7605903601369376408980219232256, 10141204801825835211973625643008, 5⟩, ⟨4, 10141204801825835211973625643008, 20282409603651670423947251286016, 6⟩, ⟨0, 1, 40564819207303340847894502572032, 5⟩, ⟨16, 40564819207303340847894502572032, 81129638414606681695789005144064, 5⟩, ⟨32, 81129638414606681695789005144064, 162259276829213363391578010288128, 5⟩, ⟨64, 162259276829213363391578010288128, 324518553658426726783156020576256, 6⟩, ⟨0, 2048, 649037107316853453566312041152512, 5⟩, ⟨0, 8192, 1298074214633706907132624082305024, 5⟩, ⟨768, 1947111321950560360698936123457536, 2596148429267413814265248164610048, 5⟩, ⟨1024, 2596148429267413814265248164610048, 5192296858534827628530496329220096, 6⟩, ⟨2176, 5516815412193254355313652349796352, 10384593717069655257060992658440192, 5⟩, ⟨4096, 10384593717069655257060992658440192, 20769187434139310514121985316880384, 5⟩, ⟨8192, 20769187434139310514121985316880384, 41538374868278621028243970633760768, 6⟩, ⟨0, 32768, 83076749736557242056487941267521536, 5⟩, ⟨49152, 124615124604835863084731911901282304, 166153499473114484112975882535043072, 5⟩, ⟨65536, 166153499473114484112975882535043072, 332306998946228968225951765070086144, 6⟩, ⟨131080, 332327281355832619896375712321372160, 664613997892457936451903530140172288, 5⟩] (.take 0 (.take 1 (.take 2 (.take 3 (.take 4 (.take 5 (.take 6 (.take 7 (.take 8 (.take 9 (.take 10 (.take 11 (.take 12 (.take 13 (.take 14 (.take 15 (.take 16 (.take 17 (.take 18 (.done)))))))))))))))))))) (.run [0, 1, 2, 3, 4, 5, 6, 7, 8, 9, 10, 11, 12, 13, 14, 15, 16, 17, 18] (.done)) ?_;simp only [drs])|refine nc ?_);simp (maxSteps := 1000000) [hF, hLq, hlt3, hin, hlt, eH, hn2, hyP, hIj, hj', hEq, hw3])
           refine nextK.of [0, 2, 3, 11, 12, 13, 14, 15, 16] [0, 1] (m3 - 1) (by omega) (by simp [hF]) ?_
           refine ⟨q + 1, cu2, by omega, hs2, ?_⟩
           simp [eH]
         ·have hfin : cu2 = MS.take (j + 1) ++ IS.drop (j + 1) := by
           rw [← hMj, hcu2, placeOf]
           have hb := ixE_bd L Z
           by_cases h9 : 0 ≤ ixE L Z
           ·rw [if_pos (by omega), if_pos h9]
           ·rw [if_neg (by omega), if_neg h9, ← hcj, List.set_getElem_self]
          have hw3 : IntKind.i64.wrap ((j : Int) + 1) = (j + 1 : Nat) := by rw [IntWalk.i64_in _ (by omega)]; rfl
          repeat first|refine n4 ?_|refine n5 ?_|refine n6 ?_|refine n7 ?_|(refine rg 18 [0, 2, 3, 11, 12, 13, 14, 15] [0, 2, 3, 11, 12, 13, 14, 15] [] ?_;simp (maxSteps := 1000000) [hF, hw3])
          refine nextK.of [0, 2, 3, 11, 12, 13, 14, 15] [0, 1] (m2 - 1) (by omega) (by simp [hF]) ?_
          refine ⟨j + 1, cu2, by omega, hfin, ?_⟩
          simp [eH]
        ·have hcf : cur = MS := by rw [hcur, List.take_of_length_le (by omega), List.drop_of_length_le (by omega), List.append_nil]
         subst hcf
         have hcy : copyT L h.things.length t h.things[y] = ⟨t, h.things[y].list, h.things[y].word, cur, h.things[y].frozen⟩ := by rw [copyT, ← hIS, hMS]
         have hP2 : P ++ [(⟨(t : Int), h.things[y].list, h.things[y].word, cur, h.things[y].frozen⟩ : Tg)] = h.things ++ CS.take (i + 1) := by
          rw [hP, List.append_assoc, List.take_add_one, List.getElem?_eq_getElem (by omega)]
          simp [hCS, hy, hyl, hcy]
         have hp := eTgs_push true P t h.things[y].list h.things[y].word cur h.things[y].frozen
         have hm := etgs_mid P ⟨t, h.things[y].list, h.things[y].word, cur, h.things[y].frozen⟩
         have hm2 : (dInts cur).mid 0 cur.length = dInts cur := by simp
         have hw4 : IntKind.i64.wrap ((i : Int) + 1) = (i + 1 : Nat) := by rw [IntWalk.i64_in _ (by omega)]; rfl
         have c1 : (P.length + 1) * 56 ≤ 140737488355328 := by omega
         have c1' : (P.length + 1) * 48 ≤ 140737488355328 := by omega
         have c2 : P.length ≤ 9223372036854775806 := by omega
         repeat first|refine n7 ?_|refine n8 ?_|refine n0 ?_
         refine ghostL 1 [.d, .f 4] ?_;simp (maxSteps := 1000000) [hF, St.lift, AV.lift, liftPl, stripP, nodeAV, isNode]
         refine ghostL 0 [.d, .f 2] ?_;simp (maxSteps := 1000000) [hF, St.lift, AV.lift, liftPl, stripP, nodeAV, isNode, eH]
         repeat first|refine n4 ?_|refine n5 ?_|((refine dr 24 0 [0, 2, 3, 11, 12, 13, 14] [0, 2, 3, 11, 12, 13] [] [⟨0, 1, 170141183460469231731687303715884105728, 5⟩, ⟨0, 1, 340282366920938463463374607431768211456, 5⟩, ⟨2, 340282366920938463463374607431768211456, 680564733841876926926749214863536422912, 5⟩, ⟨4, 680564733841876926926749214863536422912, 1361129467683753853853498429727072845824, 5⟩, ⟨8, 1361129467683753853853498429727072845824, 2722258935367507707706996859454145691648, 6⟩, ⟨0, 16384, 5444517870735015415413993718908291383296, 6⟩, ⟨32, 5444517870735015415413993718908291383296, 10889035741470030830827987437816582766592, 4⟩, ⟨80, 13611294676837538538534984297270728458240, 21778071482940061661655974875633165533184, 0⟩, ⟨255, 170141183460469231731687303715884105728, 43556142965880123323311949751266331066368, 5⟩, ⟨511, 43556142965880123323311949751266331066368, 87112285931760246646623899502532662132736, 5⟩, ⟨767, 108890357414700308308279874378165827665920, 0, 0⟩] (.take 0 (.take 1 (.take 2 (.take 3 (.take 4 (.take 5 (.fork (.alt 6 (.fork (.alt 7 (.take 8 (.take 9 (.fork (.alt 10 (.done) (.nil))))) (.nil))) (.nil))))))))) (.run [0, 1, 2, 3, 4, 5, 6, 7, 8, 9, 10] (.done)) ?_;simp only [drs]);simp (maxSteps := 1000000) [hF, hp, hm, hm2, hw4, c1, c1', c2])
         refine VS.widen [(0, [.d])] (by simp [covers, mpre]) ?_
         repeat first|refine n4 ?_|refine n6 ?_|(refine rg 12 [0, 2, 3, 11, 12, 13] [0, 2, 3, 11, 12, 13] [] ?_;simp (maxSteps := 1000000) [hF, hw4])
         refine nextK.of [0, 2, 3, 11, 12, 13] [0] (m - 1) (by omega) (by simp [hF]) ?_
         refine ⟨i + 1, _, by omega, hP2, ?_⟩
         simp [eH]
       ·have hPf : P = h.things ++ CS := by rw [hP, List.take_of_length_le (by omega)]
        have hp := dInts_app1 h.rooms[t].queue
        have hm : ∀ z : Int, (dInts (h.rooms[t].queue ++ [z])).mid 0 (h.rooms[t].queue.length + 1) = dInts (h.rooms[t].queue ++ [z]) := fun z => sq_mid_all _ _ (by simp)
        have hm0 : (dInts h.rooms[t].queue).mid 0 h.rooms[t].queue.length = dInts h.rooms[t].queue := by simp
        have c1 : (h.rooms[t].queue.length + 1) * 8 ≤ 140737488355328 := by omega
        have c2 : h.rooms[t].queue.length ≤ 9223372036854775806 := by omega
        have hs3 : ∀ z : Int, _ := fun z => eRmsF_set (flSet fl t false) h.rooms t (h.rooms[t].queue ++ [z]) h.rooms[t].over true
        have hq8 : h.rooms[t].queue.length ≤ 100000000 := by omega
        have hpu : ∀ (T : List Tg) (z : Int), putOf { h with things := T } t z = ⟨h.rooms.set t ⟨h.rooms[t].queue ++ [z], h.rooms[t].over⟩, T⟩ := fun T z => by simp [putOf, setRm, htl]
        by_cases h0 : 0 < L.length
        ·have hne : ¬ L = [] := List.length_pos_iff.1 h0
         have hc : sendE h w t k = (⟨h.rooms.set t ⟨h.rooms[t].queue ++ [(h.things.length : Int)], h.rooms[t].over⟩, h.things ++ CS⟩, (h.things.length : Int), 0) := by
          simp [sendE, hr, hr2, ht, hL, hz, htl, hq, hf, hne, ← hCS, hpu]
         repeat first|refine n1 ?_|refine n7 ?_|((first|refine rg 25 [0, 2, 3, 11, 12] [0, 2, 3, 12, 139] [] ?_|refine rg 26 [0, 2, 12] [0, 2, 3] [] ?_|(refine dr 27 0 [0, 2, 3] [3] [] [⟨0, 1, 2787593149816327892691964784081045188247552, 5⟩, ⟨1, 2787593149816327892691964784081045188247552, 5575186299632655785383929568162090376495104, 5⟩, ⟨2, 5575186299632655785383929568162090376495104, 11150372599265311570767859136324180752990208, 5⟩, ⟨4, 11150372599265311570767859136324180752990208, 22300745198530623141535718272648361505980416, 6⟩, ⟨0, 4, 44601490397061246283071436545296723011960832, 5⟩, ⟨0, 1, 89202980794122492566142873090593446023921664, 5⟩, ⟨32, 89202980794122492566142873090593446023921664, 178405961588244985132285746181186892047843328, 5⟩, ⟨64, 178405961588244985132285746181186892047843328, 356811923176489970264571492362373784095686656, 5⟩, ⟨128, 356811923176489970264571492362373784095686656, 713623846352979940529142984724747568191373312, 6⟩, ⟨0, 4, 1427247692705959881058285969449495136382746624, 5⟩, ⟨768, 2140871539058939821587428954174242704574119936, 2854495385411919762116571938898990272765493248, 5⟩, ⟨1024, 2854495385411919762116571938898990272765493248, 5708990770823839524233143877797980545530986496, 5⟩, ⟨2048, 5708990770823839524233143877797980545530986496, 11417981541647679048466287755595961091061972992, 6⟩, ⟨4096, 11417981541647679048466287755595961091061972992, 22835963083295358096932575511191922182123945984, 0⟩, ⟨0, 8, 45671926166590716193865151022383844364247891968, 5⟩, ⟨16384, 45671926166590716193865151022383844364247891968, 91343852333181432387730302044767688728495783936, 4⟩, ⟨40960, 114179815416476790484662877555959610910619729920, 182687704666362864775460604089535377456991567872, 0⟩, ⟨131071, 66902235595591869424607154817945084517941248, 365375409332725729550921208179070754913983135744, 5⟩, ⟨262143, 365375409332725729550921208179070754913983135744, 730750818665451459101842416358141509827966271488, 5⟩, ⟨393215, 913438523331814323877303020447676887284957839360, 0, 0⟩] (.take 0 (.take 1 (.take 2 (.take 4 (.take 5 (.take 6 (.take 7 (.take 8 (.take 9 (.take 10 (.take 11 (.take 12 (.take 14 (.fork (.alt 3 (.fork (.alt 13 (.fork (.alt 15 (.fork (.alt 16 (.take 17 (.take 18 (.fork (.alt 19 (.done) (.nil))))) (.nil))) (.nil))) (.alt 15 (.fork (.alt 13 (.fork (.alt 16 (.take 17 (.take 18 (.fork (.alt 19 (.done) (.nil))))) (.nil))) (.nil))) (.nil)))) (.alt 13 (.fork (.alt 3 (.fork (.alt 15 (.fork (.alt 16 (.take 17 (.take 18 (.fork (.alt 19 (.done) (.nil))))) (.nil))) (.nil))) (.alt 15 (.fork (.alt 3 (.fork (.alt 16 (.take 17 (.take 18 (.fork (.alt 19 (.done) (.nil))))) (.nil))) (.alt 16 (.take 3 (.take 17 (.take 18 (.fork (.alt 19 (.done) (.nil)))))) (.nil)))) (.nil)))) (.alt 15 (.fork (.alt 3 (.fork (.alt 13 (.fork (.alt 16 (.take 17 (.take 18 (.fork (.alt 19 (.done) (.nil))))) (.nil))) (.nil))) (.alt 13 (.fork (.alt 3 (.fork (.alt 16 (.take 17 (.take 18 (.fork (.alt 19 (.done) (.nil))))) (.nil))) (.alt 16 (.take 3 (.take 17 (.take 18 (.fork (.alt 19 (.done) (.nil)))))) (.nil)))) (.nil)))) (.nil)))))))))))))))))) (.run [0, 1, 2, 4, 5, 6, 7, 8, 9, 10, 11, 12, 14] (.both (.run [3] (.both (.run [13, 15, 16, 17, 18, 19] (.done)) (.run [15, 13, 16, 17, 18, 19] (.done)))) (.both (.run [13] (.both (.run [3, 15, 16, 17, 18, 19] (.done)) (.run [15] (.both (.run [3, 16, 17, 18, 19] (.done)) (.run [16, 3, 17, 18, 19] (.done)))))) (.run [15] (.both (.run [3, 13, 16, 17, 18, 19] (.done)) (.run [13] (.both (.run [3, 16, 17, 18, 19] (.done)) (.run [16, 3, 17, 18, 19] (.done))))))))) ?_;simp only [drs])|refine nc ?_);simp (maxSteps := 1000000) [hF, eH, hnr2, htl, h0])
         all_goals (repeat' refine And.intro ?_ ?_)
         all_goals (refine (eown_ok false h.rooms[t].queue hq8).go [] (by simp (maxSteps := 1000000) [hF, hnr2, htl, hm0, hp, hm, c1, c2, hs3]) ?_;rintro av X κ ⟨rfl, rfl, rfl⟩;simp (maxSteps := 1000000) [hF, hnr2, htl, hm0, hp, hm, c1, c2, hs3])
         all_goals (repeat' refine And.intro ?_ ?_)
         all_goals (repeat first|refine n1 ?_|(refine rg 28 [3] [8, 9] [] ?_;simp (maxSteps := 1000000) [hF, hnr2, htl, hm0, hp, hm, c1, c2, hs3]))
         all_goals (refine VS.widen [(0, [.d])] (by simp [covers, mpre]) ?_)
         all_goals ((try refine nr ?_);(repeat first|refine nb_ ?_|refine nl_ ?_);refine endK.o [8, 9] [0] [(0, [.d])] ?_;simp [hF, retK, covers, mpre, eH, hc, hPf])
         all_goals exact ⟨_, rfl⟩
        ·have hne : L = [] := List.eq_nil_of_length_eq_zero (by omega)
         have hCn : CS = [] := List.eq_nil_of_length_eq_zero (by omega)
         have hc : sendE h w t k = (⟨h.rooms.set t ⟨h.rooms[t].queue ++ [(k : Int)], h.rooms[t].over⟩, h.things⟩, (k : Int), 0) := by
          have hf0 : ¬ 400 < h.things.length := by omega
          simp [sendE, hr, hr2, ht, hL, hz, htl, hq, hf0, hne, hpu]
         have hPh : P = h.things := by rw [hPf, hCn, List.append_nil]
         repeat first|refine n1 ?_|refine n2 ?_|refine n7 ?_|((first|refine rg 25 [0, 2, 3, 11, 12] [0, 2, 3, 12, 139] [] ?_|(refine dr 27 0 [0, 2, 3] [3] [] [⟨0, 1, 2787593149816327892691964784081045188247552, 5⟩, ⟨1, 2787593149816327892691964784081045188247552, 5575186299632655785383929568162090376495104, 5⟩, ⟨2, 5575186299632655785383929568162090376495104, 11150372599265311570767859136324180752990208, 5⟩, ⟨4, 11150372599265311570767859136324180752990208, 22300745198530623141535718272648361505980416, 6⟩, ⟨0, 4, 44601490397061246283071436545296723011960832, 5⟩, ⟨0, 1, 89202980794122492566142873090593446023921664, 5⟩, ⟨32, 89202980794122492566142873090593446023921664, 178405961588244985132285746181186892047843328, 5⟩, ⟨64, 178405961588244985132285746181186892047843328, 356811923176489970264571492362373784095686656, 5⟩, ⟨128, 356811923176489970264571492362373784095686656, 713623846352979940529142984724747568191373312, 6⟩, ⟨0, 4, 1427247692705959881058285969449495136382746624, 5⟩, ⟨768, 2140871539058939821587428954174242704574119936, 2854495385411919762116571938898990272765493248, 5⟩, ⟨1024, 2854495385411919762116571938898990272765493248, 5708990770823839524233143877797980545530986496, 5⟩, ⟨2048, 5708990770823839524233143877797980545530986496, 11417981541647679048466287755595961091061972992, 6⟩, ⟨4096, 11417981541647679048466287755595961091061972992, 22835963083295358096932575511191922182123945984, 0⟩, ⟨0, 8, 45671926166590716193865151022383844364247891968, 5⟩, ⟨16384, 45671926166590716193865151022383844364247891968, 91343852333181432387730302044767688728495783936, 4⟩, ⟨40960, 114179815416476790484662877555959610910619729920, 182687704666362864775460604089535377456991567872, 0⟩, ⟨131071, 66902235595591869424607154817945084517941248, 365375409332725729550921208179070754913983135744, 5⟩, ⟨262143, 365375409332725729550921208179070754913983135744, 730750818665451459101842416358141509827966271488, 5⟩, ⟨393215, 913438523331814323877303020447676887284957839360, 0, 0⟩] (.take 0 (.take 1 (.take 2 (.take 4 (.take 5 (.take 6 (.take 7 (.take 8 (.take 9 (.take 10 (.take 11 (.take 12 (.take 14 (.fork (.alt 3 (.fork (.alt 13 (.fork (.alt 15 (.fork (.alt 16 (.take 17 (.take 18 (.fork (.alt 19 (.done) (.nil))))) (.nil))) (.nil))) (.alt 15 (.fork (.alt 13 (.fork (.alt 16 (.take 17 (.take 18 (.fork (.alt 19 (.done) (.nil))))) (.nil))) (.nil))) (.nil)))) (.alt 13 (.fork (.alt 3 (.fork (.alt 15 (.fork (.alt 16 (.take 17 (.take 18 (.fork (.alt 19 (.done) (.nil))))) (.nil))) (.nil))) (.alt 15 (.fork (.alt 3 (.fork (.alt 16 (.take 17 (.take 18 (.fork (.alt 19 (.done) (.nil))))) (.nil))) (.alt 16 (.take 3 (.take 17 (.take 18 (.fork (.alt 19 (.done) (.nil)))))) (.nil)))) (.nil)))) (.alt 15 (.fork (.alt 3 (.fork (.alt 13 (.fork (.alt 16 (.take 17 (.take 18 (.fork (.alt 19 (.done) (.nil))))) (.nil))) (.nil))) (.alt 13 (.fork (.alt 3 (.fork (.alt 16 (.take 17 (.take 18 (.fork (.alt 19 (.done) (.nil))))) (.nil))) (.alt 16 (.take 3 (.take 17 (.take 18 (.fork (.alt 19 (.done) (.nil)))))) (.nil)))) (.nil)))) (.nil)))))))))))))))))) (.run [0, 1, 2, 4, 5, 6, 7, 8, 9, 10, 11, 12, 14] (.both (.run [3] (.both (.run [13, 15, 16, 17, 18, 19] (.done)) (.run [15, 13, 16, 17, 18, 19] (.done)))) (.both (.run [13] (.both (.run [3, 15, 16, 17, 18, 19] (.done)) (.run [15] (.both (.run [3, 16, 17, 18, 19] (.done)) (.run [16, 3, 17, 18, 19] (.done)))))) (.run [15] (.both (.run [3, 13, 16, 17, 18, 19] (.done)) (.run [13] (.both (.run [3, 16, 17, 18, 19] (.done)) (.run [16, 3, 17, 18, 19] (.done))))))))) ?_;simp only [drs])|refine nc ?_);simp (maxSteps := 1000000) [hF, eH, hnr2, htl, h0])
         all_goals (repeat' refine And.intro ?_ ?_)
         all_goals (refine (eown_ok false h.rooms[t].queue hq8).go [] (by simp (maxSteps := 1000000) [hF, hnr2, htl, hm0, hp, hm, c1, c2, hs3]) ?_;rintro av X κ ⟨rfl, rfl, rfl⟩;simp (maxSteps := 1000000) [hF, hnr2, htl, hm0, hp, hm, c1, c2, hs3])
         all_goals (repeat' refine And.intro ?_ ?_)
         all_goals (repeat first|refine n1 ?_|(refine rg 28 [3] [8, 9] [] ?_;simp (maxSteps := 1000000) [hF, hnr2, htl, hm0, hp, hm, c1, c2, hs3]))
         all_goals (refine VS.widen [(0, [.d])] (by simp [covers, mpre]) ?_)
         all_goals ((try refine nr ?_);(repeat first|refine nb_ ?_|refine nl_ ?_);refine endK.o [8, 9] [0] [(0, [.d])] ?_;simp [hF, retK, covers, mpre, eH, hc, hPh])
         all_goals exact ⟨_, rfl⟩
    ·have hc : sendE h w t k = (h, 0, sendingE h w t k) := by simp [sendE, hr, hr2, ht, hz]
     repeat first|refine n1 ?_|((first|refine rg 4 [0, 2, 3, 10] [0, 2, 3, 10, 39] [] ?_|refine rg 5 [10] [8, 9] [] ?_|refine nc ?_);simp (maxSteps := 1000000) [hF, hz])
     refine VS.widen [(0, [.d])] (by simp [covers, mpre]) ?_
     (try refine nr ?_);(repeat first|refine nb_ ?_|refine nl_ ?_);refine endK.o [8, 9] [0] [(0, [.d])] ?_;simp [hF, retK, covers, mpre, eH, hc]
     exact ⟨_, rfl⟩
def H1 : Hs := ⟨[⟨[], false⟩, ⟨[], false⟩], [⟨0, false, 7, [], false⟩]⟩
def H2 : Hs := ⟨[⟨[], false⟩, ⟨[], false⟩], [⟨0, false, 7, [], false⟩, ⟨0, true, 0, [0], false⟩]⟩
def H3 : Hs := ⟨[⟨[], false⟩, ⟨[1], false⟩], [⟨1, false, 7, [], false⟩, ⟨1, true, 0, [0], false⟩]⟩
theorem s1 : leafOf (newH 2) 0 7 = (H1, 0, 0) := by kernel_rfl
theorem s2 : listOf H1 0 [0] = (H2, 1, 0) := by kernel_rfl
theorem s3 : moveOf H2 0 1 1 = (H3, 0) := by kernel_rfl
theorem s4 : getOf H3 0 1 0 = (0, 3) := by kernel_rfl
theorem s5 : getOf H3 1 1 0 = (0, 0) := by kernel_rfl
theorem H2_OK : Hok H2 := by
 refine ⟨by simp [H2], by simp [H2], by simp [H2], by simp [H2, ItemsOk], by simp [H2], by simp [H2], by simp [H2], ?_⟩
 simp [H2]
theorem sane_ok : Meets Try.prog 12 [] .nil fun av X κ => av = avBool true ∧ X = [] ∧ κ = [] := by
 refine fb Try.func12 Try.ntmps12 [.tmp 0] fun w0 I0 F0 hF => ?_
 repeat first|refine n1 ?_|refine n2 ?_|refine n3 ?_|refine n4 ?_|refine n5 ?_|refine n6 ?_|refine n7 ?_|refine n8 ?_|refine n9 ?_|refine n0 ?_|refine ⟨⟨by omega, by omega⟩, ?_⟩|((first|refine rg 0 [] [] [] ?_|refine rg 1 [] [1, 2] [] ?_|refine rg 2 [1, 2] [1, 21] [(2, 18)] ?_|refine rg 3 [] [0] [] ?_|refine rg 4 [1] [1, 3, 4] [] ?_|refine rg 5 [1, 3, 4] [1, 3, 4, 5, 6] [] ?_|refine rg 6 [1, 3, 4, 5, 6] [1, 3, 4, 5, 6, 7] [] ?_|refine rg 7 [1, 3, 4, 5, 6, 7] [1, 3, 4, 5, 6, 7, 9] [] ?_|refine rg 8 [1, 3, 4, 5, 6, 7, 9] [3, 4, 6, 7, 9, 10, 11] [] ?_|refine rg 9 [3, 4, 6, 7, 9, 10, 11] [0] [(2, 51), (6, 55), (10, 59), (14, 63), (19, 68)] ?_|refine nc ?_);simp (maxSteps := 1000000) [hF])
 refine (new_ok 2 (by omega) (by omega)).go [] (by simp (maxSteps := 1000000) [hF]) ?_;rintro av X κ ⟨rfl, rfl, rfl⟩;simp (maxSteps := 1000000) [hF]
 repeat first|refine n1 ?_|refine n2 ?_|refine n3 ?_|refine n4 ?_|refine n5 ?_|refine n6 ?_|refine n7 ?_|refine n8 ?_|refine n9 ?_|refine n0 ?_|refine ⟨⟨by omega, by omega⟩, ?_⟩|((first|refine rg 0 [] [] [] ?_|refine rg 1 [] [1, 2] [] ?_|refine rg 2 [1, 2] [1, 21] [(2, 18)] ?_|refine rg 3 [] [0] [] ?_|refine rg 4 [1] [1, 3, 4] [] ?_|refine rg 5 [1, 3, 4] [1, 3, 4, 5, 6] [] ?_|refine rg 6 [1, 3, 4, 5, 6] [1, 3, 4, 5, 6, 7] [] ?_|refine rg 7 [1, 3, 4, 5, 6, 7] [1, 3, 4, 5, 6, 7, 9] [] ?_|refine rg 8 [1, 3, 4, 5, 6, 7, 9] [3, 4, 6, 7, 9, 10, 11] [] ?_|refine rg 9 [3, 4, 6, 7, 9, 10, 11] [0] [(2, 51), (6, 55), (10, 59), (14, 63), (19, 68)] ?_|refine nc ?_);simp (maxSteps := 1000000) [hF])
 refine (leaf_ok (newH 2) (by simp [newH]) 0 7).go [(0, [])] (by simp (maxSteps := 1000000) [hF, s1, dH]) ?_;rintro av X κ ⟨rfl, rfl, rfl⟩;simp (maxSteps := 1000000) [hF, s1, dH]
 repeat first|refine n1 ?_|refine n2 ?_|refine n3 ?_|refine n4 ?_|refine n5 ?_|refine n6 ?_|refine n7 ?_|refine n8 ?_|refine n9 ?_|refine n0 ?_|refine ⟨⟨by omega, by omega⟩, ?_⟩|((first|refine rg 0 [] [] [] ?_|refine rg 1 [] [1, 2] [] ?_|refine rg 2 [1, 2] [1, 21] [(2, 18)] ?_|refine rg 3 [] [0] [] ?_|refine rg 4 [1] [1, 3, 4] [] ?_|refine rg 5 [1, 3, 4] [1, 3, 4, 5, 6] [] ?_|refine rg 6 [1, 3, 4, 5, 6] [1, 3, 4, 5, 6, 7] [] ?_|refine rg 7 [1, 3, 4, 5, 6, 7] [1, 3, 4, 5, 6, 7, 9] [] ?_|refine rg 8 [1, 3, 4, 5, 6, 7, 9] [3, 4, 6, 7, 9, 10, 11] [] ?_|refine rg 9 [3, 4, 6, 7, 9, 10, 11] [0] [(2, 51), (6, 55), (10, 59), (14, 63), (19, 68)] ?_|refine nc ?_);simp (maxSteps := 1000000) [hF])
 refine (list_r H1 (by simp [H1]) 0 [0] [] true (by simp)).go [(1, []), (0, [])] (by simp (maxSteps := 1000000) [hF, s2, dInts, sq, dInt, dH]) ?_;rintro av X κ ⟨rfl, rfl, rfl⟩;simp (maxSteps := 1000000) [hF, s2, dInts, sq, dInt, dH]
 repeat first|refine n1 ?_|refine n2 ?_|refine n3 ?_|refine n4 ?_|refine n5 ?_|refine n6 ?_|refine n7 ?_|refine n8 ?_|refine n9 ?_|refine n0 ?_|refine ⟨⟨by omega, by omega⟩, ?_⟩|((first|refine rg 0 [] [] [] ?_|refine rg 1 [] [1, 2] [] ?_|refine rg 2 [1, 2] [1, 21] [(2, 18)] ?_|refine rg 3 [] [0] [] ?_|refine rg 4 [1] [1, 3, 4] [] ?_|refine rg 5 [1, 3, 4] [1, 3, 4, 5, 6] [] ?_|refine rg 6 [1, 3, 4, 5, 6] [1, 3, 4, 5, 6, 7] [] ?_|refine rg 7 [1, 3, 4, 5, 6, 7] [1, 3, 4, 5, 6, 7, 9] [] ?_|refine rg 8 [1, 3, 4, 5, 6, 7, 9] [3, 4, 6, 7, 9, 10, 11] [] ?_|refine rg 9 [3, 4, 6, 7, 9, 10, 11] [0] [(2, 51), (6, 55), (10, 59), (14, 63), (19, 68)] ?_|refine nc ?_);simp (maxSteps := 1000000) [hF])
 refine (move_ok H2 H2_OK 0 1 1).go [(0, [])] (by simp (maxSteps := 1000000) [hF, s3, dH]) ?_;rintro av X κ ⟨rfl, rfl, rfl⟩;simp (maxSteps := 1000000) [hF, s3, dH]
 repeat first|refine n1 ?_|refine n2 ?_|refine n3 ?_|refine n4 ?_|refine n5 ?_|refine n6 ?_|refine n7 ?_|refine n8 ?_|refine n9 ?_|refine n0 ?_|refine ⟨⟨by omega, by omega⟩, ?_⟩|((first|refine rg 0 [] [] [] ?_|refine rg 1 [] [1, 2] [] ?_|refine rg 2 [1, 2] [1, 21] [(2, 18)] ?_|refine rg 3 [] [0] [] ?_|refine rg 4 [1] [1, 3, 4] [] ?_|refine rg 5 [1, 3, 4] [1, 3, 4, 5, 6] [] ?_|refine rg 6 [1, 3, 4, 5, 6] [1, 3, 4, 5, 6, 7] [] ?_|refine rg 7 [1, 3, 4, 5, 6, 7] [1, 3, 4, 5, 6, 7, 9] [] ?_|refine rg 8 [1, 3, 4, 5, 6, 7, 9] [3, 4, 6, 7, 9, 10, 11] [] ?_|refine rg 9 [3, 4, 6, 7, 9, 10, 11] [0] [(2, 51), (6, 55), (10, 59), (14, 63), (19, 68)] ?_|refine nc ?_);simp (maxSteps := 1000000) [hF])
 refine (get_c H3 0 1 0).go [(0, [])] (by simp (maxSteps := 1000000) [hF, s4, dH]) ?_;rintro av X κ ⟨rfl, rfl, rfl⟩;simp (maxSteps := 1000000) [hF, s4, dH]
 repeat first|refine n1 ?_|refine n2 ?_|refine n3 ?_|refine n4 ?_|refine n5 ?_|refine n6 ?_|refine n7 ?_|refine n8 ?_|refine n9 ?_|refine n0 ?_|refine ⟨⟨by omega, by omega⟩, ?_⟩|((first|refine rg 0 [] [] [] ?_|refine rg 1 [] [1, 2] [] ?_|refine rg 2 [1, 2] [1, 21] [(2, 18)] ?_|refine rg 3 [] [0] [] ?_|refine rg 4 [1] [1, 3, 4] [] ?_|refine rg 5 [1, 3, 4] [1, 3, 4, 5, 6] [] ?_|refine rg 6 [1, 3, 4, 5, 6] [1, 3, 4, 5, 6, 7] [] ?_|refine rg 7 [1, 3, 4, 5, 6, 7] [1, 3, 4, 5, 6, 7, 9] [] ?_|refine rg 8 [1, 3, 4, 5, 6, 7, 9] [3, 4, 6, 7, 9, 10, 11] [] ?_|refine rg 9 [3, 4, 6, 7, 9, 10, 11] [0] [(2, 51), (6, 55), (10, 59), (14, 63), (19, 68)] ?_|refine nc ?_);simp (maxSteps := 1000000) [hF])
 refine (get_c H3 1 1 0).go [(0, [])] (by simp (maxSteps := 1000000) [hF, s5, dH]) ?_;rintro av X κ ⟨rfl, rfl, rfl⟩;simp (maxSteps := 1000000) [hF, s5, dH]
 repeat first|refine n1 ?_|refine n2 ?_|refine n3 ?_|refine n4 ?_|refine n5 ?_|refine n6 ?_|refine n7 ?_|refine n8 ?_|refine n9 ?_|refine n0 ?_|refine ⟨⟨by omega, by omega⟩, ?_⟩|((first|refine rg 0 [] [] [] ?_|refine rg 1 [] [1, 2] [] ?_|refine rg 2 [1, 2] [1, 21] [(2, 18)] ?_|refine rg 3 [] [0] [] ?_|refine rg 4 [1] [1, 3, 4] [] ?_|refine rg 5 [1, 3, 4] [1, 3, 4, 5, 6] [] ?_|refine rg 6 [1, 3, 4, 5, 6] [1, 3, 4, 5, 6, 7] [] ?_|refine rg 7 [1, 3, 4, 5, 6, 7] [1, 3, 4, 5, 6, 7, 9] [] ?_|refine rg 8 [1, 3, 4, 5, 6, 7, 9] [3, 4, 6, 7, 9, 10, 11] [] ?_|refine rg 9 [3, 4, 6, 7, 9, 10, 11] [0] [(2, 51), (6, 55), (10, 59), (14, 63), (19, 68)] ?_|refine nc ?_);simp (maxSteps := 1000000) [hF])
 (try refine nr ?_);(repeat first|refine nb_ ?_|refine nl_ ?_);refine endK.o [0] [] [] ?_;simp [hF, retK, covers, mpre]
def dClI (c : Cl) : D := .agg (.cons (.val (.int .i64 (if c.list = true then 6 else 3))) (.cons (.val (.int .i64 c.word)) (.cons (.val (.string ⟨#[]⟩)) (.cons (.sl false () 1 .nil) (.cons (.sl false () 1 (dInts c.items)) .nil)))))
def dClsI (l : List Cl) : D := sq (l.map dClI)
def eClI (c : Cl) : D := .agg (.cons (.val (.bool c.list)) (.cons (.val (.int .i64 c.word)) (.cons (.sl false () 1 (dInts c.items)) .nil)))
def eClsI (l : List Cl) : D := sq (l.map eClI)
@[simp] theorem dClsI_len (l : List Cl) : (dClsI l).len = l.length := by simp [dClsI]
@[simp] theorem eClsI_len (l : List Cl) : (eClsI l).len = l.length := by simp [eClsI]
@[simp] theorem dClsI_free (l : List Cl) : (dClsI l).free = true := sq_free fun x hx => by obtain ⟨n, _, rfl⟩ := List.mem_map.1 hx; simp [dClI]
@[simp] theorem eClsI_free (l : List Cl) : (eClsI l).free = true := sq_free fun x hx => by obtain ⟨n, _, rfl⟩ := List.mem_map.1 hx; simp [eClI]
structure Rel (G G' : List Cl) : Prop where
 len : G'.length = G.length
 cell : ∀ i, (h : i < G.length) → (G'[i]'(by omega)).list = G[i].list ∧ (G'[i]'(by omega)).items = G[i].items ∧ (G[i].list = true → G[i].word = 0) ∧ (G[i].list = false → (G'[i]'(by omega)).word = G[i].word)
@[simp] theorem own_ecls (l : List Cl) : (eCls l).allOwn = true := own_sq fun x hx => by obtain ⟨c, _, rfl⟩ := List.mem_map.1 hx; simp [eCl, T.allOwn]
end Go.Proofs.Ytkkbcpcihadkhaa

/- A deed at the program's house and at the document's; what both tell. -/
namespace Go.Proofs.Ytkkbcpcihadkhaa
set_option linter.all false
open Go.Vc Go.Proofs
end Go.Proofs.Ytkkbcpcihadkhaa

/- From what a row's argument reads as to trees that cannot change. -/
namespace Go.Vc
set_option linter.all false
open T (hdr blk)
abbrev allB (w : World) : Nat → Prop := fun b => b < w.heap.size
def Reads (P : Program) (t : TypeId) (z : Nat) (good : D → Prop) : Prop :=
  ∀ (H : Type) (enc : TypeId × Value → H) (w : World) (fuel : Nat) (cs : List Value) (x : DataW H × List MemPlace), DataW.trod enc P w 0 (fun _ => true) true fuel t cs = some x →
    ∃ g : G, T.Holds w.heap (allB w) g ∧ g.free = true ∧ g.cells = cs ∧ g.width = z ∧ good g.erase
theorem reads_int {P : Program} {t : TypeId} {k : IntKind} (ht : P.underlying t = some (.int k)) : Reads P t 1 fun d => ∃ n, d = .val (.int k n) := fun H enc w fuel cs x h => by
  obtain ⟨n, rfl, _, _⟩ := DataW.trod_int ht h
  exact ⟨.val (.int k n), rfl, rfl, rfl, rfl, n, rfl⟩
def FieldsRead (P : Program) : List Field → List (Nat × (D → Prop)) → Nat → Prop
  | [], [], _ => True
  | f :: fs, (z, good) :: r, o => Reads P f.type z good ∧ P.cellsOf f.type = z ∧ f.offset = o ∧ FieldsRead P fs r (o + z)
  | _, _, _ => False
def fieldsGood : List (Nat × (D → Prop)) → D → Prop
  | [], d => d = .nil
  | (_, good) :: r, d => ∃ a t, d = .cons a t ∧ good a ∧ fieldsGood r t
def fieldsSize : List (Nat × (D → Prop)) → Nat
  | [] => 0
  | (z, _) :: r => z + fieldsSize r
theorem reads_struct {P : Program} {t : TypeId} {fs : Array Field} (ht : P.underlying t = some (.struct fs)) {gs : List (Nat × (D → Prop))} (hf : FieldsRead P fs.toList gs 0) (hz : P.cellsOf t = fieldsSize gs) :
    Reads P t (fieldsSize gs) fun d => ∃ s, d = .agg s ∧ fieldsGood gs s := fun H enc w fuel cs x h => by
  obtain ⟨xs, n, _, _, hl, hlen, he⟩ := DataW.trod_struct ht h
  have each : ∀ f ∈ fs.toList, ∃ y, DataW.trod enc P w 0 (fun _ => true) true n f.type ((cs.drop f.offset).take (P.cellsOf f.type)) = some y := fun f hm => by
    obtain ⟨i, hi, rfl⟩ := List.getElem_of_mem hm
    have h1 := he i fs[i] (by simp at hi; simp [hi])
    rw [List.getElem?_eq_getElem (by simp at hi; omega)] at h1
    exact ⟨_, h1⟩
  have key : ∀ (l : List Field) (gs : List (Nat × (D → Prop))) (o : Nat), FieldsRead P l gs o → (∀ f ∈ l, f ∈ fs.toList) → cs.length = o + fieldsSize gs →
      ∃ s : G, T.Holds w.heap (allB w) s ∧ s.free = true ∧ s.cells = cs.drop o ∧ s.width = fieldsSize gs ∧ fieldsGood gs s.erase := by
    intro l
    induction l with
    | nil =>
      intro gs o h1 _ h2
      cases gs with
      | nil => exact ⟨.nil, trivial, rfl, by simp only [fieldsSize] at h2; simp [T.cells, h2], rfl, rfl⟩
      | cons _ _ => exact h1.elim
    | cons f l ih =>
      intro gs o h1 hm h2
      cases gs with
      | nil => exact h1.elim
      | cons p r =>
        obtain ⟨z, good⟩ := p
        obtain ⟨k1, k2, k3, k4⟩ := h1
        simp only [fieldsSize] at h2
        obtain ⟨s, s1, s2, s3, s4, s5⟩ := ih r (o + z) k4 (fun f hf => hm f (by simp [hf])) (by omega)
        obtain ⟨y, hy⟩ := each f (hm f (by simp))
        obtain ⟨g, g1, g2, g3, g4, g5⟩ := k1 H enc w n _ y hy
        refine ⟨.cons g s, ⟨g1, s1⟩, by simp [T.free, g2, s2], ?_, by simp [T.width, g4, s4, fieldsSize], _, _, rfl, g5, s5⟩
        simp only [T.cells, g3, s3, k2, k3]
        rw [← List.drop_drop, List.take_append_drop]
  obtain ⟨s, s1, s2, s3, s4, s5⟩ := key fs.toList gs 0 hf (fun _ h => h) (by rw [hl, hz]; omega)
  exact ⟨.agg s, s1, s2, by simpa [T.cells] using s3, s4, _, rfl, s5⟩
theorem map_of {α β : Type} {f : β → α} : ∀ {l : List α}, (∀ x ∈ l, ∃ y, x = f y) → ∃ ys : List β, l = ys.map f
  | [], _ => ⟨[], rfl⟩
  | x :: l, h => by
    obtain ⟨y, hy⟩ := h x (by simp)
    obtain ⟨ys, hys⟩ := map_of (l := l) (f := f) fun x hx => h x (List.mem_cons_of_mem _ hx)
    exact ⟨y :: ys, by rw [hy, hys]; rfl⟩
theorem cells?_at {w : World} {a : Addr} {n : Nat} {cs : List Value} (h : w.cells? 0 a n = some cs) : cs.length = n ∧ ∀ r v, cs[r]? = some v → w.cell? (a.add r) = some v := by
  obtain ⟨_, h1, h2⟩ := World.cells?_some h
  refine ⟨h1, fun r v hv => ?_⟩
  have hr : r < n := by rw [← h1]; exact (List.getElem?_eq_some_iff.1 hv).1
  have := h2 r hr
  rw [this, hv]
theorem reads_elems {P : Program} {e : TypeId} {z : Nat} {good : D → Prop} (he : Reads P e z good) {H : Type} {enc : TypeId × Value → H} {w : World} {n : Nat} {at_ : Nat → List Value} : ∀ (len i0 : Nat),
    (∀ i, i < len → ∃ y, DataW.trod enc P w 0 (fun _ => true) true n e (at_ (i0 + i)) = some y) →
    ∃ s : G, ∃ l : List D, T.Holds w.heap (allB w) s ∧ s.free = true ∧ s.uni z ∧ s.len = len ∧ s.erase = sq l ∧ l.length = len ∧ (∀ d ∈ l, good d) ∧ s.cells = ((List.range len).map fun i => at_ (i0 + i)).flatten
  | 0, i0, _ => ⟨.nil, [], trivial, rfl, trivial, rfl, rfl, rfl, by simp, rfl⟩
  | len + 1, i0, h => by
    obtain ⟨y, hy⟩ := h 0 (by omega)
    obtain ⟨g, g1, g2, g3, g4, g5⟩ := he H enc w n _ y hy
    obtain ⟨s, l, s1, s2, s3, s4, s5, s6, s7, s8⟩ := reads_elems he len (i0 + 1) fun i hi => by
      have := h (i + 1) (by omega)
      rwa [show i0 + (i + 1) = i0 + 1 + i by omega] at this
    refine ⟨.cons g s, g.erase :: l, ⟨g1, s1⟩, by simp [T.free, g2, s2], ⟨g4, s3⟩, by simp [T.len, s4], by simp [T.erase, sq, s5], by simp [s6], fun d hd => ?_, ?_⟩
    · rcases List.mem_cons.1 hd with rfl | hd
      · exact g5
      · exact s7 d hd
    · rw [List.range_succ_eq_map]
      simp only [T.cells, g3, s8, List.map_cons, List.flatten_cons, List.map_map, Nat.add_zero]
      congr 3
      funext i
      simp only [Function.comp]
      congr 1; omega
theorem flat_at {α : Type} {z : Nat} (hz : 0 < z) : ∀ (l : List (List α)) (_ : ∀ c ∈ l, c.length = z) (j : Nat) (v : α), l.flatten[j]? = some v → ∃ c, l[j / z]? = some c ∧ c[j % z]? = some v
  | [], _, j, v, h => by simp at h
  | c :: l, hl, j, v, h => by
    have hc := hl c (by simp)
    simp only [List.flatten_cons] at h
    rcases Nat.lt_or_ge j z with hj | hj
    · rw [List.getElem?_append_left (by omega)] at h
      exact ⟨c, by rw [Nat.div_eq_of_lt hj]; rfl, by rw [Nat.mod_eq_of_lt hj]; exact h⟩
    · rw [List.getElem?_append_right (by omega), hc] at h
      obtain ⟨c', h1, h2⟩ := flat_at hz l (fun c hc => hl c (by simp [hc])) (j - z) v h
      refine ⟨c', ?_, ?_⟩
      · rw [show j / z = (j - z) / z + 1 by rw [Nat.div_eq_sub_div hz hj]]; simpa using h1
      · rw [Nat.mod_eq_sub_mod hj]; exact h2
theorem reads_slice {P : Program} {t e : TypeId} {z : Nat} {good : D → Prop} (ht : P.underlying t = some (.slice e)) (he : Reads P e z good) (hc : P.cellsOf e = z) (hz : 0 < z) :
    Reads P t 1 fun d => ∃ l : List D, (∀ x ∈ l, good x) ∧ l.length ≤ 2 ^ 63 - 1 ∧ d = .sl false () z (sq l) := fun H enc w fuel cs x h => by
  rcases DataW.trod_slice ht h with ⟨rfl, _⟩ | ⟨a, len, cap, elems, rest, n, _, rfl, _, hb, hlc, hm, hlen, hel, hsp, _⟩
  · exact ⟨.sl false (.slice none 0 0) z .nil, ⟨trivial, trivial, fun _ => rfl, rfl, rfl, rfl⟩, rfl, rfl, rfl, [], by simp, by simp, rfl⟩
  · obtain ⟨b, o, sp⟩ := a
    have hcm' : cap ≤ 2 ^ 63 - 1 := by
      have : maxLen = 2 ^ 63 - 1 := by decide
      omega
    rcases cap with _ | cap
    · obtain rfl : len = 0 := by omega
      exact ⟨.sl false (.slice (some ⟨b, o, sp⟩) 0 0) z .nil, ⟨trivial, trivial, fun _ => rfl, rfl, (fun h => by cases h), rfl⟩, rfl, rfl, rfl, [], by simp, by simp, rfl⟩
    · obtain ⟨hsp1, hsp2⟩ := hsp rfl
      rw [hc] at hel hsp2
      have each : ∀ i, i < cap + 1 → ∃ cs, w.cells? 0 ((⟨b, o, sp⟩ : Addr).add (i * z)) z = some cs ∧ ∃ y, DataW.trod enc P w 0 (fun _ => true) true n e cs = some y := fun i hi => by
        by_cases h1 : i < len
        · have h2 := hel i h1
          rw [List.getElem?_eq_getElem (by omega)] at h2
          obtain ⟨cs, h3, h4⟩ := Option.bind_eq_some_iff.1 h2
          exact ⟨cs, h3, _, h4⟩
        · have h2 := hsp2 (i - len) (by omega)
          rw [List.getElem?_eq_getElem (by omega), show len + (i - len) = i by omega] at h2
          obtain ⟨cs, h3, h4⟩ := Option.bind_eq_some_iff.1 h2
          exact ⟨cs, h3, _, h4⟩
      have hspot : sp = none := by
        obtain ⟨cs0, h1, _⟩ := each 0 (by omega)
        obtain ⟨h2, h3⟩ := cells?_at h1
        have h4 := h3 0 _ (List.getElem?_eq_getElem (by omega))
        have e0 : ((⟨b, o, sp⟩ : Addr).add (0 * z)).add 0 = ⟨b, o, sp⟩ := by simp [Addr.add]
        rw [e0] at h4
        unfold World.cell? at h4
        split at h4
        · cases sp with
          | none => rfl
          | some _ => simp at h4
        · cases h4
      subst hspot
      have hadd : ∀ k, (⟨b, o, none⟩ : Addr).add k = ⟨b, o + k, none⟩ := fun k => by unfold Addr.add; split <;> simp_all
      obtain ⟨csl, hl1, _⟩ := each cap (by omega)
      obtain ⟨hl2, hl3⟩ := cells?_at hl1
      have hl4 := hl3 (z - 1) _ (List.getElem?_eq_getElem (by omega))
      rw [hadd] at hl4
      have hadd2 : ∀ (o' k : Nat), (⟨b, o', none⟩ : Addr).add k = ⟨b, o' + k, none⟩ := fun o' k => by unfold Addr.add; split <;> simp_all
      rw [hadd2] at hl4
      obtain ⟨row, e', fr, hrow⟩ : ∃ row e' fr, w.heap[b]? = some (.cells row e' fr) := by
        unfold World.cell? at hl4
        split at hl4
        · rename_i c _ _ heq; exact ⟨_, _, _, heq⟩
        · cases hl4
      have cell : ∀ k v, w.cell? ⟨b, k, none⟩ = some v → row[k]? = some v := fun k v hk => by
        unfold World.cell? at hk
        simp only [hrow] at hk
        simpa using hk
      have hblt : b < w.heap.size := by
        rcases Nat.lt_or_ge b w.heap.size with h' | h'
        · exact h'
        · rw [Array.getElem?_eq_none h'] at hrow; cases hrow
      have hsz : o + (cap + 1) * z ≤ row.size := by
        have h5 := cell _ _ hl4
        have h6 := (Array.getElem?_eq_some_iff.1 h5).1
        rw [Nat.add_mul]; omega
      obtain ⟨s, l, s1, s2, s3, s4, s5, s6, s7, s8⟩ := reads_elems (enc := enc) (w := w) (n := n) (at_ := fun i => (w.cells? 0 ((⟨b, o, none⟩ : Addr).add (i * z)) z).getD []) he len 0 fun i hi => by
        obtain ⟨cs, h1, h2⟩ := each (0 + i) (by omega)
        rw [h1]; exact h2
      refine ⟨.sl false (.slice (some ⟨b, o, none⟩) len (cap + 1)) z s, ⟨s1, s3, fun _ => s2, rfl, s4.symm, hlc, hcm', fun _ => hblt, row, e', fr, hrow, (fun h => by cases h), hsz, fun j v hj => ?_⟩, by simp [T.free, s2], rfl, rfl, l, s7, by omega, by simp [T.erase, s5]⟩
      rw [s8] at hj
      obtain ⟨c, c1, c2⟩ := flat_at hz _ (fun c hcm => by
        obtain ⟨i, hi, rfl⟩ := List.mem_map.1 hcm
        obtain ⟨cs, h1, _⟩ := each (0 + i) (by have := List.mem_range.1 hi; omega)
        rw [h1]; exact (cells?_at h1).1) j v hj
      rw [List.getElem?_map] at c1
      cases hr : (List.range len)[j / z]? with
      | none => rw [hr] at c1; cases c1
      | some i =>
        rw [hr] at c1
        obtain ⟨hi1, hi2⟩ := List.getElem?_eq_some_iff.1 hr
        simp only [List.length_range] at hi1
        simp only [List.getElem_range] at hi2
        subst hi2
        obtain ⟨cs, h1, _⟩ := each (0 + j / z) (by omega)
        simp only [Option.map_some, Option.some.injEq, h1, Option.getD_some] at c1
        subst c1
        have h2 := (cells?_at h1).2 _ _ c2
        rw [hadd, hadd2] at h2
        have h3 := cell _ _ h2
        rw [← h3]
        congr 1
        have := Nat.div_add_mod j z
        rw [Nat.mul_comm] at this
        simp only [Nat.zero_add]
        omega
theorem imm_of_trod {P : Program} {t e : TypeId} {z : Nat} {good : D → Prop} (ht : P.underlying t = some (.slice e)) (he : Reads P e z good) (hc : P.cellsOf e = z) (hz : 0 < z) {H : Type} {enc : TypeId × Value → H} {w : World}
    {r : Reach} {b0 : Nat} {v : Value} {d : DataW H} {ps : List MemPlace} (hv : Value.okWide P w r b0 t v) (h : DataW.Trod enc P w 0 (fun _ => true) true t v d ps) :
    ∃ l : List D, (∀ d ∈ l, good d) ∧ l.length ≤ 2 ^ 63 - 1 ∧ Rl w.heap (allB w) [] (.imm z (sq l) false) true [v] := by
  obtain ⟨fuel, h⟩ := h
  have hok : Cell.ok P w r b0 t v := by
    unfold Value.okWide at hv
    rw [ht] at hv
    simp only [Cell.okWide, ht] at hv
    exact hv
  have hform : v = .slice none 0 0 ∨ ∃ a len cap, v = .slice (some a) len cap := by
    unfold Cell.ok at hok
    rw [ht] at hok
    split at hok <;> try exact hok.elim
    all_goals first
      | (rename_i heq; cases heq; done)
      | skip
    · exact .inl rfl
    · exact .inr ⟨_, _, _, rfl⟩
  obtain ⟨g, g1, g2, g3, g4, l, l1, l2, l3⟩ := reads_slice ht he hc hz H enc w fuel _ _ h
  have hg : ∃ s, g = .sl false v z s ∧ s.erase = sq l := by
    cases g <;> simp only [T.erase, reduceCtorEq] at l3
    rename_i o a z' s
    simp only [T.sl.injEq, true_and] at l3
    obtain ⟨rfl, rfl, l3⟩ := l3
    have e : [a] = v.cells.toList := g3
    rcases hform with rfl | ⟨_, _, _, rfl⟩ <;> (simp [Value.cells] at e; subst e; exact ⟨s, rfl, l3⟩)
  obtain ⟨s, rfl, hs⟩ := hg
  exact ⟨l, l1, l2, v, rfl, s, hs, g1, fun h => by cases h⟩
end Go.Vc
