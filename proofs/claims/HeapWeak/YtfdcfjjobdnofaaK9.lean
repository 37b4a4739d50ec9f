/- HeapWeak. -/
import Derived.Test.YtfdcfjjobdnofaaK8
import Derived.Test.YtfdcfjjobdnofaaRows
import Derived.WalkKit
import Derived.ProofKit
import Derived.OpenShut
import Derived.ShutString
import Derived.ChangeOld
import Derived.Carry
namespace Go.Proofs.Ytfdcfjjobdnofaa
set_option linter.all false
open Go.Vc Go.Proofs
set_option linter.unusedSimpArgs false
set_option linter.unusedVariables false
set_option maxRecDepth 100000
set_option maxHeartbeats 4000000
attribute [local irreducible] CallW EqK

theorem place_err (h : Hp) (x : Int) : (placeOf h x).2.2.2 = askedOf h x := by
 unfold placeOf
 by_cases ha : askedOf h x = 0
 ·rw [if_neg (by omega), ha]; split <;> rfl
 ·rw [if_pos ha]
theorem mergedF {α : Type} {S P : α → Prop} {Q : Prop} (h : (∀ a, S a → P a) → Q) (hp : ∀ a, S a → P a) : Q := h hp
/- cabochon/cabochonlaw27.HeapWeak -/
theorem hweak_ok (nn : Int) (L : List Hd) (M : List Int) (ex ex2 : Bool) : Meets Try.prog 3 [] (.cons (avInt nn) (.cons (.imm 5 (dLds L) ex) (.cons (.imm 1 (dInts M) ex2) .nil))) fun av X κ => av = .val (.bool true) := by
 have f0 := fit_played nn L
 obtain ⟨P, hP⟩ : ∃ P, P = playedOf nn L := ⟨_, rfl⟩
 rw [← hP] at f0
 refine fb Try.func3 Try.ntmps3 [.tmp 6] fun w0 I0 F0 hF => ?_
 repeat first|refine n1 ?_|((first|refine rg 0 [0, 1, 2] [0, 1, 2] [] ?_|refine rg 1 [0, 1, 2] [2, 7, 9] [] ?_);simp (maxSteps := 1000000) [hF])
 refine (played_ok nn L ex).go [] (by simp (maxSteps := 1000000) [hF, ← hP]) ?_;rintro av X κ ⟨rfl, rfl, rfl⟩;simp (maxSteps := 1000000) [hF, ← hP]
 repeat first|refine n1 ?_|refine n2 ?_|((first|refine rg 2 [2, 7, 9] [2, 7, 26] [] ?_|refine rg 4 [2, 7] [2, 7, 10] [] ?_|refine nc ?_);simp (maxSteps := 1000000) [hF])
 refine (weaks_c P f0.fine.ok (f0.wl (by omega))).go [(0, [])] (by simp (maxSteps := 1000000) [hF, dHp]) ?_;rintro av X κ ⟨rfl, rfl, rfl⟩;simp (maxSteps := 1000000) [hF, dHp]
 repeat first|refine n1 ?_|refine n3 ?_|(refine rg 5 [2, 7, 10] [2, 7, 10, 11] [] ?_;simp (maxSteps := 1000000) [hF])
 refine VS.pick [2, 7, 10, 11] [0, 2] (by simp [hF]) ?_;simp [hF]
 refine VS.rounds (fun m st => ∃ (i : Nat) (h : Hp), i + m = M.length ∧ i ≤ 8 ∧ Fit (100 + i) h ∧ st = ⟨[(2, .imm 1 (dInts M) ex2), (7, .ptr 0 [.d]), (10, .sub 1 [] 0 h.weak.length false), (11, avInt i)], [dHp h, .sl true () 2 (dEns h.weak)], [], []⟩) ⟨M.length, 0, P, by omega, by omega, f0, by simp [dHp]⟩ ?_
 rintro m st ⟨i, h, hi, hi8, f, rfl⟩
 have k := f.fine.ok
 have hwl := f.wl (by omega)
 have hfl := f.fl (by omega)
 have hql := f.ql (by omega)
 have hag := f.ag (by omega)
 have hw : IntKind.i64.wrap ((i : Int) + 1) = (i + 1 : Nat) := by rw [IntWalk.i64_in _ (by omega)]; rfl
 have step : ∀ b : Bool, ∃ g, g = (collectE h b).1 ∧ Fit (100 + (i + 1)) g ∧ g.weak.length = h.weak.length ∧ ∀ j, (hj : j < h.weak.length) → ∃ hj' : j < g.weak.length, (g.weak[j]).2 = h.weak[j].2 ∧ (g.weak[j].1 = 0 ∨ g.weak[j].1 = h.weak[j].1) ∧
   (¬ h.weak[j].1 = 0 → ((askedOf g h.weak[j].1 = 0) ↔ ¬ g.weak[j].1 = 0)) := by
  intro b
  obtain ⟨wl, wx⟩ := weak_law k b
  refine ⟨_, rfl, age_collect f b, wl, fun j hj => ⟨by omega, ?_⟩⟩
  obtain ⟨w, h1, h2, h3, h4⟩ := wx j hj
  rw [List.getElem?_eq_getElem (by omega), Option.some.injEq] at h1
  rw [h1]
  exact ⟨h2, h3, h4⟩
 repeat first|refine n1 ?_|(refine rg 6 [2, 7, 10, 11] [2, 7, 10, 11, 36] [(4, 33)] ?_;simp (maxSteps := 1000000) [hF])
 refine ⟨fun hlt => ?_, fun hge => ?_⟩
 ·repeat first|(refine nc ?_;simp (maxSteps := 1000000) [hF])
  refine ⟨fun h8 => ?_, fun h8 => ?_⟩
  ·have hlt' : i < M.length := by omega
   have hn1 := dInts_nth hlt'
   generalize M[i] = v at hn1
   repeat first|refine n1 ?_|refine n2 ?_|refine n3 ?_|((first|refine rg 8 [2, 7, 10, 11] [2, 7, 10, 11, 44] [] ?_|refine nc ?_);simp (maxSteps := 1000000) [hF, hn1, hlt'])
   refine mergedF (α := Hp) (P := ?_) (S := fun g => Fit (100 + (i + 1)) g ∧ g.weak.length = h.weak.length ∧ ∀ j, (hj : j < h.weak.length) → ∃ hj' : j < g.weak.length, (g.weak[j]).2 = h.weak[j].2 ∧ (g.weak[j].1 = 0 ∨ g.weak[j].1 = h.weak[j].1) ∧
    (¬ h.weak[j].1 = 0 → ((askedOf g h.weak[j].1 = 0) ↔ ¬ g.weak[j].1 = 0))) ?_ ?_
   rotate_left
   ·intro key
    refine ⟨fun hz => ?_, fun hz => ?_⟩
    ·obtain ⟨g, hg, s⟩ := step true
     repeat first|(refine rg 9 [2, 7, 10, 11] [2, 7, 10, 11] [] ?_;simp (maxSteps := 1000000) [hF])
     refine (minor_ok h k hwl hfl hql hag).go [(0, [])] (by simp (maxSteps := 1000000) [hF, dHp, ← hg]) ?_;rintro av X κ ⟨rfl, rfl, rfl⟩;simp (maxSteps := 1000000) [hF, dHp, ← hg]
     repeat first|refine n1 ?_
     refine VS.pick [2, 7, 10, 11] [0, 1] (by simp [hF]) ?_;simp [hF]
     exact key g s
    ·obtain ⟨g, hg, s⟩ := step false
     repeat first|(refine rg 10 [2, 7, 10, 11] [2, 7, 10, 11] [] ?_;simp (maxSteps := 1000000) [hF])
     refine (major_ok h k hwl hfl hql hag).go [(0, [])] (by simp (maxSteps := 1000000) [hF, dHp, ← hg]) ?_;rintro av X κ ⟨rfl, rfl, rfl⟩;simp (maxSteps := 1000000) [hF, dHp, ← hg]
     repeat first|refine n1 ?_
     refine VS.pick [2, 7, 10, 11] [0, 1] (by simp [hF]) ?_;simp [hF]
     exact key g s
   rintro g ⟨fg, wl, wx⟩
   repeat first|(refine rg 11 [2, 7, 10, 11] [2, 7, 10, 11, 12] [] ?_;simp (maxSteps := 1000000) [hF])
   refine (weaks_c g fg.fine.ok (fg.wl (by omega))).go [(0, [])] (by simp (maxSteps := 1000000) [hF, dHp]) ?_;rintro av X κ ⟨rfl, rfl, rfl⟩;simp (maxSteps := 1000000) [hF, dHp]
   repeat first|refine n1 ?_|refine n2 ?_|refine n3 ?_|((first|refine rg 12 [2, 7, 10, 11, 12] [2, 7, 10, 11, 12, 55] [] ?_|refine rg 14 [2, 7, 10, 11, 12] [2, 7, 10, 11, 12, 13] [] ?_|refine nc ?_);simp (maxSteps := 1000000) [hF, wl])
   refine VS.rounds (fun m2 st => ∃ (j : Nat), j + m2 = h.weak.length ∧ st = ⟨[(2, .imm 1 (dInts M) ex2), (7, .ptr 0 [.d]), (10, .sub 1 [] 0 h.weak.length false), (11, avInt i), (12, .sub 2 [] 0 h.weak.length false), (13, avInt j)], [dHp g, .sl true () 2 (dEns h.weak), .sl true () 2 (dEns g.weak)], [], []⟩) ⟨h.weak.length, 0, by omega, by simp [dHp]⟩ ?_
   rintro m2 st ⟨j, hj, rfl⟩
   repeat first|refine n1 ?_|((first|refine rg 15 [2, 7, 10, 11, 12, 13] [2, 7, 10, 11, 12, 13, 59] [] ?_|refine nc ?_);simp (maxSteps := 1000000) [hF])
   refine ⟨fun hlt2 => ?_, fun hge2 => ?_⟩
   ·have hj1 : j < h.weak.length := by omega
    obtain ⟨hj2, e2, e1, e3⟩ := wx j hj1
    have hn2 := dEns_nth hj1
    have hn3 := dEns_nth hj2
    have hwj : IntKind.i64.wrap ((j : Int) + 1) = (j + 1 : Nat) := by rw [IntWalk.i64_in _ (by omega)]; rfl
    have hpe := place_err g h.weak[j].1
    rw [e2] at hn3
    generalize g.weak[j].1 = C at *
    generalize h.weak[j].1 = A at *
    generalize h.weak[j].2 = B at *
    by_cases hC : C = 0
    ·subst hC
     by_cases hA : A = 0
     ·subst hA
      repeat first|refine n1 ?_|refine n2 ?_|refine n3 ?_|((first|(refine dr 17 0 [2, 7, 10, 11, 12, 13] [2, 7, 10, 11, 12, 13, 93] [(11, 73), (18, 80)] [⟨0, 4096, 4611686018427387904, 5⟩, ⟨0, 8192, 9223372036854775808, 5⟩, ⟨3, 13835058055282163712, 18446744073709551616, 5⟩, ⟨4, 18446744073709551616, 36893488147419103232, 5⟩, ⟨8, 36893488147419103232, 73786976294838206464, 6⟩, ⟨0, 1024, 147573952589676412928, 5⟩, ⟨0, 8192, 295147905179352825856, 5⟩, ⟨96, 442721857769029238784, 590295810358705651712, 5⟩, ⟨128, 590295810358705651712, 1180591620717411303424, 5⟩, ⟨256, 1180591620717411303424, 2361183241434822606848, 6⟩, ⟨528, 2434970217729660813312, 4722366482869645213696, 5⟩, ⟨1024, 4722366482869645213696, 9444732965739290427392, 5⟩, ⟨2048, 9444732965739290431488, 18889465931478580854784, 5⟩, ⟨2048, 9444732965739290435584, 37778931862957161709568, 5⟩, ⟨14336, 66113130760175032991744, 75557863725914323419136, 5⟩, ⟨18432, 85002596691653613846528, 151115727451828646838272, 5⟩, ⟨34816, 160560460417567937265664, 302231454903657293676544, 6⟩, ⟨67584, 311676187869396584103936, 604462909807314587353088, 5⟩, ⟨133120, 613907642773053877780480, 1208925819614629174706176, 5⟩, ⟨262144, 1208925819614629174710272, 2417851639229258349412352, 5⟩, ⟨262144, 1208925819614629174714368, 4835703278458516698824704, 5⟩, ⟨1835008, 8462480737302404222943232, 9671406556917033397649408, 5⟩, ⟨2359296, 10880332376531662572355584, 19342813113834066795298816, 5⟩, ⟨4456448, 20551738933448695970004992, 38685626227668133590597632, 6⟩, ⟨262144, 1208925819614629174707200, 77371252455336267181195264, 5⟩, ⟨262144, 1208925819614629174714368, 154742504910672534362390528, 5⟩, ⟨50593792, 233322683185623430718291968, 309485009821345068724781056, 5⟩, ⟨67371008, 310693935640959697899487232, 618970019642690137449562112, 5⟩, ⟨134479872, 620178945462304766624268288, 1237940039285380274899124224, 6⟩, ⟨277086208, 1277834591332663037664428032, 2475880078570760549798248448, 5⟩, ⟨537135104, 2477098449123340918263382016, 4951760157141521099596496896, 5⟩, ⟨1073743872, 4951769601874486838886924288, 9903520314283042199192993792, 5⟩] (.take 0 (.take 1 (.take 2 (.take 3 (.take 4 (.take 5 (.take 6 (.take 7 (.take 8 (.take 9 (.take 10 (.take 11 (.take 12 (.take 13 (.take 14 (.take 15 (.take 16 (.take 17 (.take 18 (.take 19 (.take 20 (.take 21 (.take 22 (.take 23 (.take 24 (.take 25 (.take 26 (.take 27 (.take 28 (.take 29 (.take 30 (.take 31 (.done))))))))))))))))))))))))))))))))) (.run [0, 1, 2, 3, 4, 5, 6, 7, 8, 9, 10, 11, 12, 13, 14, 15, 16, 17, 18, 19, 20, 21, 22, 23, 24, 25, 26, 27, 28, 29, 30, 31] (.done)) ?_;simp only [drs])|refine rg 19 [2, 7, 10, 11, 12, 13] [2, 7, 10, 11, 12, 13, 17] [] ?_|refine nc ?_);simp (maxSteps := 1000000) [hF, hn2, hn3, hj1, hj2])
      refine (place_c g fg.fine.ok 0).go [(0, [])] (by simp (maxSteps := 1000000) [hF, dHp, hpe, hn2, hn3, hj1, hj2]) ?_;rintro av X κ ⟨rfl, rfl, rfl⟩;simp (maxSteps := 1000000) [hF, dHp, hpe, hn2, hn3, hj1, hj2]
      repeat first|refine n1 ?_|refine n2 ?_|refine n4 ?_|refine n5 ?_|refine n6 ?_|((first|refine rg 16 [2, 7, 10, 11, 12, 13] [2, 7, 10, 11, 12, 13] [] ?_|refine rg 20 [2, 7, 10, 11, 12, 13, 17] [2, 7, 10, 11, 12, 13, 122] [(6, 112)] ?_|refine nc ?_);simp (maxSteps := 1000000) [hF, hn2, hn3, hj1, hj2, hwj])
      refine nextK.of [2, 7, 10, 11, 12, 13] [0, 1, 2] (m2 - 1) (by omega) (by simp [hF]) ?_
      exact ⟨j + 1, by omega, by simp [dHp]⟩
     ·have hne : ¬ askedOf g A = 0 := by rw [e3 hA]; simp
      repeat first|refine n1 ?_|refine n2 ?_|refine n3 ?_|((first|(refine dr 17 0 [2, 7, 10, 11, 12, 13] [2, 7, 10, 11, 12, 13, 93] [(11, 73), (18, 80)] [⟨0, 4096, 4611686018427387904, 5⟩, ⟨0, 8192, 9223372036854775808, 5⟩, ⟨3, 13835058055282163712, 18446744073709551616, 5⟩, ⟨4, 18446744073709551616, 36893488147419103232, 5⟩, ⟨8, 36893488147419103232, 73786976294838206464, 6⟩, ⟨0, 1024, 147573952589676412928, 5⟩, ⟨0, 8192, 295147905179352825856, 5⟩, ⟨96, 442721857769029238784, 590295810358705651712, 5⟩, ⟨128, 590295810358705651712, 1180591620717411303424, 5⟩, ⟨256, 1180591620717411303424, 2361183241434822606848, 6⟩, ⟨528, 2434970217729660813312, 4722366482869645213696, 5⟩, ⟨1024, 4722366482869645213696, 9444732965739290427392, 5⟩, ⟨2048, 9444732965739290431488, 18889465931478580854784, 5⟩, ⟨2048, 9444732965739290435584, 37778931862957161709568, 5⟩, ⟨14336, 66113130760175032991744, 75557863725914323419136, 5⟩, ⟨18432, 85002596691653613846528, 151115727451828646838272, 5⟩, ⟨34816, 160560460417567937265664, 302231454903657293676544, 6⟩, ⟨67584, 311676187869396584103936, 604462909807314587353088, 5⟩, ⟨133120, 613907642773053877780480, 1208925819614629174706176, 5⟩, ⟨262144, 1208925819614629174710272, 2417851639229258349412352, 5⟩, ⟨262144, 1208925819614629174714368, 4835703278458516698824704, 5⟩, ⟨1835008, 8462480737302404222943232, 9671406556917033397649408, 5⟩, ⟨2359296, 10880332376531662572355584, 19342813113834066795298816, 5⟩, ⟨4456448, 20551738933448695970004992, 38685626227668133590597632, 6⟩, ⟨262144, 1208925819614629174707200, 77371252455336267181195264, 5⟩, ⟨262144, 1208925819614629174714368, 154742504910672534362390528, 5⟩, ⟨50593792, 233322683185623430718291968, 309485009821345068724781056, 5⟩, ⟨67371008, 310693935640959697899487232, 618970019642690137449562112, 5⟩, ⟨134479872, 620178945462304766624268288, 1237940039285380274899124224, 6⟩, ⟨277086208, 1277834591332663037664428032, 2475880078570760549798248448, 5⟩, ⟨537135104, 2477098449123340918263382016, 4951760157141521099596496896, 5⟩, ⟨1073743872, 4951769601874486838886924288, 9903520314283042199192993792, 5⟩] (.take 0 (.take 1 (.take 2 (.take 3 (.take 4 (.take 5 (.take 6 (.take 7 (.take 8 (.take 9 (.take 10 (.take 11 (.take 12 (.take 13 (.take 14 (.take 15 (.take 16 (.take 17 (.take 18 (.take 19 (.take 20 (.take 21 (.take 22 (.take 23 (.take 24 (.take 25 (.take 26 (.take 27 (.take 28 (.take 29 (.take 30 (.take 31 (.done))))))))))))))))))))))))))))))))) (.run [0, 1, 2, 3, 4, 5, 6, 7, 8, 9, 10, 11, 12, 13, 14, 15, 16, 17, 18, 19, 20, 21, 22, 23, 24, 25, 26, 27, 28, 29, 30, 31] (.done)) ?_;simp only [drs])|refine rg 19 [2, 7, 10, 11, 12, 13] [2, 7, 10, 11, 12, 13, 17] [] ?_|refine nc ?_);simp (maxSteps := 1000000) [hF, hn2, hn3, hj1, hj2, hA])
      refine (place_c g fg.fine.ok A).go [(0, [])] (by simp (maxSteps := 1000000) [hF, dHp, hpe, hn2, hn3, hj1, hj2, hA, hne]) ?_;rintro av X κ ⟨rfl, rfl, rfl⟩;simp (maxSteps := 1000000) [hF, dHp, hpe, hn2, hn3, hj1, hj2, hA, hne]
      repeat first|refine n1 ?_|refine n2 ?_|refine n4 ?_|refine n5 ?_|refine n6 ?_|((first|refine rg 16 [2, 7, 10, 11, 12, 13] [2, 7, 10, 11, 12, 13] [] ?_|refine rg 20 [2, 7, 10, 11, 12, 13, 17] [2, 7, 10, 11, 12, 13, 122] [(6, 112)] ?_|refine nc ?_);simp (maxSteps := 1000000) [hF, hn2, hn3, hj1, hj2, hA, hne, hwj])
      refine nextK.of [2, 7, 10, 11, 12, 13] [0, 1, 2] (m2 - 1) (by omega) (by simp [hF]) ?_
      exact ⟨j + 1, by omega, by simp [dHp]⟩
    ·obtain rfl : C = A := by rcases e1 with e | e; exact absurd e hC; exact e
     have heq : askedOf g C = 0 := (e3 hC).2 hC
     repeat first|refine n1 ?_|refine n2 ?_|refine n3 ?_|((first|(refine dr 17 0 [2, 7, 10, 11, 12, 13] [2, 7, 10, 11, 12, 13, 93] [(11, 73), (18, 80)] [⟨0, 4096, 4611686018427387904, 5⟩, ⟨0, 8192, 9223372036854775808, 5⟩, ⟨3, 13835058055282163712, 18446744073709551616, 5⟩, ⟨4, 18446744073709551616, 36893488147419103232, 5⟩, ⟨8, 36893488147419103232, 73786976294838206464, 6⟩, ⟨0, 1024, 147573952589676412928, 5⟩, ⟨0, 8192, 295147905179352825856, 5⟩, ⟨96, 442721857769029238784, 590295810358705651712, 5⟩, ⟨128, 590295810358705651712, 1180591620717411303424, 5⟩, ⟨256, 1180591620717411303424, 2361183241434822606848, 6⟩, ⟨528, 2434970217729660813312, 4722366482869645213696, 5⟩, ⟨1024, 4722366482869645213696, 9444732965739290427392, 5⟩, ⟨2048, 9444732965739290431488, 18889465931478580854784, 5⟩, ⟨2048, 9444732965739290435584, 37778931862957161709568, 5⟩, ⟨14336, 66113130760175032991744, 75557863725914323419136, 5⟩, ⟨18432, 85002596691653613846528, 151115727451828646838272, 5⟩, ⟨34816, 160560460417567937265664, 302231454903657293676544, 6⟩, ⟨67584, 311676187869396584103936, 604462909807314587353088, 5⟩, ⟨133120, 613907642773053877780480, 1208925819614629174706176, 5⟩, ⟨262144, 1208925819614629174710272, 2417851639229258349412352, 5⟩, ⟨262144, 1208925819614629174714368, 4835703278458516698824704, 5⟩, ⟨1835008, 8462480737302404222943232, 9671406556917033397649408, 5⟩, ⟨2359296, 10880332376531662572355584, 19342813113834066795298816, 5⟩, ⟨4456448, 20551738933448695970004992, 38685626227668133590597632, 6⟩, ⟨262144, 1208925819614629174707200, 77371252455336267181195264, 5⟩, ⟨262144, 1208925819614629174714368, 154742504910672534362390528, 5⟩, ⟨50593792, 233322683185623430718291968, 309485009821345068724781056, 5⟩, ⟨67371008, 310693935640959697899487232, 618970019642690137449562112, 5⟩, ⟨134479872, 620178945462304766624268288, 1237940039285380274899124224, 6⟩, ⟨277086208, 1277834591332663037664428032, 2475880078570760549798248448, 5⟩, ⟨537135104, 2477098449123340918263382016, 4951760157141521099596496896, 5⟩, ⟨1073743872, 4951769601874486838886924288, 9903520314283042199192993792, 5⟩] (.take 0 (.take 1 (.take 2 (.take 3 (.take 4 (.take 5 (.take 6 (.take 7 (.take 8 (.take 9 (.take 10 (.take 11 (.take 12 (.take 13 (.take 14 (.take 15 (.take 16 (.take 17 (.take 18 (.take 19 (.take 20 (.take 21 (.take 22 (.take 23 (.take 24 (.take 25 (.take 26 (.take 27 (.take 28 (.take 29 (.take 30 (.take 31 (.done))))))))))))))))))))))))))))))))) (.run [0, 1, 2, 3, 4, 5, 6, 7, 8, 9, 10, 11, 12, 13, 14, 15, 16, 17, 18, 19, 20, 21, 22, 23, 24, 25, 26, 27, 28, 29, 30, 31] (.done)) ?_;simp only [drs])|refine rg 19 [2, 7, 10, 11, 12, 13] [2, 7, 10, 11, 12, 13, 17] [] ?_|refine nc ?_);simp (maxSteps := 1000000) [hF, hn2, hn3, hj1, hj2, hC])
     refine (place_c g fg.fine.ok C).go [(0, [])] (by simp (maxSteps := 1000000) [hF, dHp, hpe, hn2, hn3, hj1, hj2, hC, heq]) ?_;rintro av X κ ⟨rfl, rfl, rfl⟩;simp (maxSteps := 1000000) [hF, dHp, hpe, hn2, hn3, hj1, hj2, hC, heq]
     repeat first|refine n1 ?_|refine n2 ?_|refine n4 ?_|refine n5 ?_|refine n6 ?_|((first|refine rg 16 [2, 7, 10, 11, 12, 13] [2, 7, 10, 11, 12, 13] [] ?_|refine rg 20 [2, 7, 10, 11, 12, 13, 17] [2, 7, 10, 11, 12, 13, 122] [(6, 112)] ?_|refine nc ?_);simp (maxSteps := 1000000) [hF, hn2, hn3, hj1, hj2, hC, heq, hwj])
     refine nextK.of [2, 7, 10, 11, 12, 13] [0, 1, 2] (m2 - 1) (by omega) (by simp [hF]) ?_
     exact ⟨j + 1, by omega, by simp [dHp]⟩
   ·repeat first|refine n4 ?_|refine n5 ?_|refine n6 ?_|refine n7 ?_|refine n8 ?_|refine n0 ?_|((first|refine rg 7 [2, 7, 10, 11] [2, 7, 10, 11] [] ?_|refine rg 22 [2, 7, 11, 12] [2, 7, 10, 11] [] ?_);simp (maxSteps := 1000000) [hF, hw])
    refine nextK.of [2, 7, 10, 11] [0, 2] (m - 1) (by omega) (by simp [hF]) ?_
    exact ⟨i + 1, g, by omega, by omega, fg, by simp [dHp, wl]⟩
  ·repeat first|refine n1 ?_|refine n7 ?_|(refine rg 23 [] [6] [] ?_;simp (maxSteps := 1000000) [hF])
   refine (sane_ok).go [] (by simp (maxSteps := 1000000) [hF]) ?_;rintro av X κ ⟨rfl, rfl, rfl⟩;simp (maxSteps := 1000000) [hF]
   (try refine nr ?_);(repeat first|refine nb_ ?_|refine nl_ ?_);refine endK.o [6] [] [] ?_;simp [hF, retK, covers, mpre]
 ·repeat first|refine n1 ?_|refine n7 ?_|((first|refine rg 23 [] [6] [] ?_|refine nc ?_);simp (maxSteps := 1000000) [hF])
  refine (sane_ok).go [] (by simp (maxSteps := 1000000) [hF]) ?_;rintro av X κ ⟨rfl, rfl, rfl⟩;simp (maxSteps := 1000000) [hF]
  (try refine nr ?_);(repeat first|refine nb_ ?_|refine nl_ ?_);refine endK.o [6] [] [] ?_;simp [hF, retK, covers, mpre]
end Go.Proofs.Ytfdcfjjobdnofaa

/- Proved: HeapWeak returns true for every input, and its arguments read behind the call as before. No condition. -/
namespace Go.Proofs.Ytfdcfjjobdnofaa.heapWeak
set_option linter.all false
open Go.Vc Go.ChangeShapes Go.WideShapes Go.ChangeAt Go.RowKit
set_option linter.unusedVariables false

theorem own : ownKnob Try.prog.godebug = none := by kernel_rfl
theorem laid : laidOutB Try.prog = true := by kernel_rfl

set_option maxRecDepth 100000 in
theorem lifted (os : Os) (started : os.Started) (H : Type) (enc : TypeId × Value → H) :
    ReturnsInHanded {} Try.checked os 3 .any (Rows.heapWeakSpec.pre6 enc Try.prog Try.f3 Rows.heapWeakRow.domain false) (Rows.heapWeakSpec.post enc Try.prog Try.f3 false true false false) := by
  refine returnsInHanded_of_change (C := Try.checked) own started (by kernel_rfl) Try.func3
    (ChangeSpec.witness6 (enc := enc) (C := Try.checked) false ⟨#[], #[.int .i64 0, .slice none 0 0, .slice none 0 0], []⟩ 8 (by kernel_rfl) (by kernel_rfl) (by kernel_rfl) (by kernel_rfl)) ?_
  intro W base args ds gs before hval0 hW hcnd _
  have hval : ∀ (j : Nat) t v, Try.f3.params[j]? = some t → args[j]? = some v → Value.okWide Try.prog W .any base t v := hval0
  have hW' := hW
  obtain ⟨p, q, hA0, hV, rfl, hfz, hnd⟩ := hW
  have hA : DataW.TrodAll enc Try.prog W 0 (fun _ => true) true Try.f3.params.toList args.toList ds p := hA0
  rw [Try.params3] at hA hval
  obtain ⟨v0, vs0, d0, ds0, p0, q0, hargs0, rfl, rfl, h0, r0⟩ := trodAll_cons hA
  obtain ⟨v1, vs1, d1, ds1, p1, q1, hargs1, rfl, rfl, h1, r1⟩ := trodAll_cons r0
  obtain ⟨v2, vs2, d2, ds2, p2, q2, hargs2, rfl, rfl, h2, r2⟩ := trodAll_cons r1
  obtain ⟨rfl, rfl, rfl⟩ := trodAll_nil r2
  subst hargs2
  subst hargs1
  obtain rfl : args = #[v0, v1, v2] := by cases args; simp_all
  obtain ⟨rfl, rfl⟩ := trodVars_none hV
  obtain ⟨a0, hr0⟩ := int_of (hval 0 3 v0 rfl rfl) h0
  obtain ⟨a1, hlen1, hr1⟩ := deeds_of (hval 1 22 v1 rfl rfl) h1
  obtain ⟨a2, hlen2, hr2⟩ := ints_of (hval 2 23 v2 rfl rfl) h2
  clear hA0 hval0
  have hwalk : Calls Try.prog 3 #[v0, v1, v2] W fun e w' => e = .returned (.bool true) ∧ Below W.heap.size W w' :=
    Meets.law (hweak_ok a0 a1 a2 false false) (vs := [v0, v1, v2]) (I := allB W) (fun _ h => h) ⟨v0, _, rfl, hr0, ⟨v1, _, rfl, hr1, ⟨v2, _, rfl, hr2, rfl⟩⟩⟩
  refine hwalk.mono fun e W' ⟨he, bel⟩ => ?_
  subst he
  exact ⟨_, rfl, _, _, _, [], _, [], hW', trodAll_mk1 (shut_bool Try.underlying4 _), (trodAll_cons_mk (Below.trod laid (by kernel_rfl) (of_decide_eq_true (by kernel_rfl)) h0 bel fun x hx => hW'.lt x (by simp [hx])) (trodAll_cons_mk (Below.trod laid (by kernel_rfl) (of_decide_eq_true (by kernel_rfl)) h1 bel fun x hx => hW'.lt x (by simp [hx])) (trodAll_cons_mk (Below.trod laid (by kernel_rfl) (of_decide_eq_true (by kernel_rfl)) h2 bel fun x hx => hW'.lt x (by simp [hx])) trodAll_mk0))), rfl, bel.frame _, fun h => by cases h⟩

theorem over : Rows.heapWeakRow.holds Try.pinned (OpenSpec.ofChange Rows.heapWeakSpec) :=
  OpenClaim.holds_of_wide 3 Try.f3 rfl rfl rfl rfl rfl rfl rfl ⟨rfl, rfl, rfl, rfl, rfl⟩ rfl rfl rfl rfl rfl (by kernel_rfl) Try.func3 (by kernel_rfl)
    (of_decide_eq_true (by kernel_rfl)) (by unfold Func.isWrapper; first | (rw [if_pos (by decide +kernel)]; kernel_rfl) | (rw [if_neg (by decide +kernel)]; exact ⟨rfl, rfl⟩))
    (fun os started H enc _ => lifted os started H enc)

/-- THE STATEMENT -/
theorem proved : Rows.HeapWeakSaid :=
  over
end Go.Proofs.Ytfdcfjjobdnofaa.heapWeak
