/- The law's own functions: graphs of the program are compared. -/
import Derived.Test.YtkkbcpcihadkhaaK6
import Derived.Test.YtkkbcpcihadkhaaK7
import Derived.Test.YtkkbcpcihadkhaaRows
import Derived.Test.YtkkbcpcihadkhaaK8
import Derived.WalkKit
import Derived.ProofKit
import Derived.OpenShut
import Derived.ShutString
import Derived.ChangeOld
import Derived.Carry
namespace Go.Proofs.Ytkkbcpcihadkhaa
set_option linter.all false
open Go.Vc Go.Proofs
set_option linter.unusedSimpArgs false
set_option linter.unusedVariables false
set_option maxRecDepth 100000
set_option maxHeartbeats 4000000
attribute [local irreducible] CallW EqK
theorem same_i (G : List Cl) (hG : G.length ≤ 100000) (hI : ∀ c ∈ G, c.items.length ≤ 100000) (ex ex2 : Bool) : Meets Try.prog 17 [] (.cons (.imm 5 (dClsI G) ex) (.cons (.imm 5 (dClsI G) ex2) .nil)) fun av X κ => av = avBool true ∧ X = [] ∧ κ = [] := by
 refine fb Try.func17 Try.ntmps17 [.tmp 4] fun w0 I0 F0 hF => ?_
 repeat first|refine n1 ?_|refine n2 ?_|refine n3 ?_|((first|refine rg 0 [0, 1] [0, 1] [] ?_|refine rg 1 [0, 1] [0, 1, 11] [] ?_|refine rg 3 [0, 1] [0, 1, 5] [] ?_|refine nc ?_);simp (maxSteps := 1000000) [hF])
 refine VS.rounds (fun m st => ∃ i : Nat, i + m = G.length ∧ st = ⟨[(0, .imm 5 (dClsI G) ex), (1, .imm 5 (dClsI G) ex2), (5, avInt i)], [], [], []⟩) ⟨G.length, 0, by omega, by simp⟩ ?_
 rintro m st ⟨i, hi, rfl⟩
 repeat first|refine n1 ?_|((first|refine rg 4 [0, 1, 5] [0, 1, 5, 15] [] ?_|refine nc ?_);simp (maxSteps := 1000000) [hF])
 refine ⟨fun hlt => ?_, fun hge => ?_⟩
 ·have hil := hI _ (List.getElem_mem hlt)
  have hn1 := dClsI_nth hlt
  have hw : IntKind.i64.wrap ((i : Int) + 1) = (i + 1 : Nat) := by rw [IntWalk.i64_in _ (by omega)]; rfl
  obtain ⟨IS, hIS⟩ : ∃ IS, IS = G[i].items := ⟨_, rfl⟩
  rw [← hIS] at hn1 hil
  generalize (if G[i].list = true then (6 : Int) else 3) = KI at hn1
  repeat first|refine n1 ?_|refine n2 ?_|refine n3 ?_|((first|(refine dr 6 0 [0, 1, 5] [0, 1, 5, 56] [(11, 29), (24, 42)] [⟨0, 1, 262144, 5⟩, ⟨0, 32, 524288, 5⟩, ⟨3, 786432, 1048576, 5⟩, ⟨4, 1048576, 2097152, 5⟩, ⟨8, 2097152, 4194304, 6⟩, ⟨0, 2, 8388608, 5⟩, ⟨0, 32, 16777216, 5⟩, ⟨96, 25165824, 33554432, 5⟩, ⟨128, 33554432, 67108864, 5⟩, ⟨256, 67108864, 134217728, 6⟩, ⟨528, 138412032, 268435456, 5⟩, ⟨1024, 268435456, 536870912, 5⟩, ⟨2048, 536870913, 1073741824, 5⟩, ⟨2048, 536870944, 2147483648, 5⟩, ⟨14336, 3758096384, 4294967296, 5⟩, ⟨18432, 4831838208, 8589934592, 5⟩, ⟨34816, 9126805504, 17179869184, 6⟩, ⟨2048, 536870914, 34359738368, 5⟩, ⟨2048, 536870944, 68719476736, 5⟩, ⟨395264, 103616086016, 137438953472, 5⟩, ⟨526336, 137975824384, 274877906944, 5⟩, ⟨1050624, 275414777856, 549755813888, 6⟩, ⟨2164736, 567472553984, 1099511627776, 5⟩, ⟨4196352, 1100048498688, 2199023255552, 5⟩, ⟨8390656, 2199023255552, 4398046511104, 5⟩, ⟨16777216, 4398046511105, 8796093022208, 5⟩, ⟨16777216, 4398046511136, 17592186044416, 5⟩, ⟨117440512, 30786325577728, 35184372088832, 5⟩, ⟨150994944, 39582418599936, 70368744177664, 5⟩, ⟨285212672, 74766790688768, 140737488355328, 6⟩, ⟨553648128, 145135534866432, 281474976710656, 5⟩, ⟨16777216, 4398046511106, 562949953421312, 5⟩, ⟨16777216, 4398046511136, 1125899906842624, 5⟩, ⟨6459228160, 1693247906775040, 2251799813685248, 5⟩, ⟨8606711808, 2256197860196352, 4503599627370496, 5⟩, ⟨17196646400, 4507997673881600, 9007199254740992, 6⟩, ⟨34376515584, 9011597301252096, 18014398509481984, 5⟩, ⟨69809995776, 18300271532703744, 36028797018963968, 5⟩, ⟨137455730688, 36033195065475072, 72057594037927936, 5⟩] (.take 0 (.take 1 (.take 2 (.take 3 (.take 4 (.take 5 (.take 6 (.take 7 (.take 8 (.take 9 (.take 10 (.take 11 (.take 12 (.take 13 (.take 14 (.take 15 (.take 16 (.take 17 (.take 18 (.take 19 (.take 20 (.take 21 (.take 22 (.take 23 (.take 24 (.take 25 (.take 26 (.take 27 (.take 28 (.take 29 (.take 30 (.take 31 (.take 32 (.take 33 (.take 34 (.take 35 (.take 36 (.take 37 (.take 38 (.done)))))))))))))))))))))))))))))))))))))))) (.run [0, 1, 2, 3, 4, 5, 6, 7, 8, 9, 10, 11, 12, 13, 14, 15, 16, 17, 18, 19, 20, 21, 22, 23, 24, 25, 26, 27, 28, 29, 30, 31, 32, 33, 34, 35, 36, 37, 38] (.done)) ?_;simp only [drs])|refine rg 8 [0, 1, 5] [0, 1, 5, 6] [] ?_|refine nc ?_);simp (maxSteps := 1000000) [hF, hn1, hlt])
  refine VS.pick [0, 1, 5, 6] [] (by simp [hF]) ?_;simp [hF]
  refine VS.rounds (fun m st => ∃ k : Nat, k + m = IS.length ∧ st = ⟨[(0, .imm 5 (dClsI G) ex), (1, .imm 5 (dClsI G) ex2), (5, avInt i), (6, avInt k)], [], [], []⟩) ⟨IS.length, 0, by omega, by simp⟩ ?_
  rintro m2 st ⟨k, hk, rfl⟩
  repeat first|refine n1 ?_|((first|refine rg 9 [0, 1, 5, 6] [0, 1, 5, 6, 64] [] ?_|refine nc ?_);simp (maxSteps := 1000000) [hF, hn1, hlt])
  refine ⟨fun hltk => ?_, fun hgek => ?_⟩
  ·have hkl : k < IS.length := by omega
   have hnk := dInts_nth hkl
   have hwk : IntKind.i64.wrap ((k : Int) + 1) = (k + 1 : Nat) := by rw [IntWalk.i64_in _ (by omega)]; rfl
   repeat first|refine n1 ?_|refine n2 ?_|refine n3 ?_|refine n4 ?_|refine n5 ?_|refine n6 ?_|((first|refine rg 10 [0, 1, 5, 6] [0, 1, 5, 6] [] ?_|(refine dr 11 0 [0, 1, 5, 6] [0, 1, 5, 6, 83] [] [⟨0, 1, 147573952589676412928, 5⟩, ⟨0, 32, 295147905179352825856, 5⟩, ⟨3, 442721857769029238784, 590295810358705651712, 5⟩, ⟨4, 590295810358705651712, 1180591620717411303424, 5⟩, ⟨8, 1180591620717411303424, 2361183241434822606848, 6⟩, ⟨0, 64, 4722366482869645213696, 5⟩, ⟨48, 7083549724304467820544, 9444732965739290427392, 5⟩, ⟨64, 9444732965739290427392, 18889465931478580854784, 6⟩, ⟨0, 2, 37778931862957161709568, 5⟩, ⟨0, 32, 75557863725914323419136, 5⟩, ⟨768, 113336795588871485128704, 151115727451828646838272, 5⟩, ⟨1024, 151115727451828646838272, 302231454903657293676544, 5⟩, ⟨2048, 302231454903657293676544, 604462909807314587353088, 6⟩, ⟨0, 64, 1208925819614629174706176, 5⟩, ⟨12288, 1813388729421943762059264, 2417851639229258349412352, 5⟩, ⟨16384, 2417851639229258349412352, 4835703278458516698824704, 6⟩, ⟨32896, 4854592744389995279679488, 9671406556917033397649408, 5⟩] (.take 0 (.take 1 (.take 2 (.take 3 (.take 4 (.take 5 (.take 6 (.take 7 (.take 8 (.take 9 (.take 10 (.take 11 (.take 12 (.take 13 (.take 14 (.take 15 (.take 16 (.done)))))))))))))))))) (.run [0, 1, 2, 3, 4, 5, 6, 7, 8, 9, 10, 11, 12, 13, 14, 15, 16] (.done)) ?_;simp only [drs])|refine nc ?_);simp (maxSteps := 1000000) [hF, hn1, hlt, hnk, hkl, hwk])
   refine nextK.of [0, 1, 5, 6] [] (m2 - 1) (by omega) (by simp [hF]) ?_
   exact ⟨k + 1, by omega, by simp⟩
  ·repeat first|refine n4 ?_|refine n5 ?_|refine n6 ?_|refine n7 ?_|(refine rg 5 [0, 1, 5] [0, 1, 5] [] ?_;simp (maxSteps := 1000000) [hF, hw])
   refine nextK.of [0, 1, 5] [] (m - 1) (by omega) (by simp [hF]) ?_
   exact ⟨i + 1, by omega, by simp⟩
 ·repeat first|refine n1 ?_|refine n7 ?_|(refine rg 13 [] [4] [] ?_;simp (maxSteps := 1000000) [hF])
  (try refine nr ?_);(repeat first|refine nb_ ?_|refine nl_ ?_);refine endK.o [4] [] [] ?_;simp [hF, retK, covers, mpre]
theorem same_r (G : List Cl) (hG : G.length ≤ 100000) (hI : ∀ c ∈ G, c.items.length ≤ 100000) : Meets Try.prog 17 [.sl true () 5 (dCls G), .sl true () 5 (dCls G)] (.cons (.sub 0 [] 0 G.length false) (.cons (.sub 1 [] 0 G.length false) .nil)) fun av X κ => av = avBool true ∧ X = [.sl true () 5 (dCls G), .sl true () 5 (dCls G)] ∧ κ = [] := by
 have hm1 : (dCls G).mid 0 G.length = dCls G := sq_mid_all _ _ (by simp)
 have h1 : Meets Try.prog 17 [.sl true () 5 (dCls G)] (.cons (.imm 5 (dClsI G) false) (.cons (.sub 0 [] 0 G.length false) .nil)) fun av X κ => av = avBool true ∧ X = [.sl true () 5 (dCls G)] ∧ κ = [] := by
  refine Meets.mono (Meets.warm (d0 := .sl true () 5 (dCls G)) (Y := []) (by simp only [AV.chilled, hm1, freeze_dCls]; exact same_i G hG hI false false) ?_) ?_
  ·rintro av X κ ⟨rfl, rfl, rfl⟩; exact ⟨rfl, by simp, rfl⟩
  ·rintro av X κ ⟨av0, X0, ⟨rfl, rfl, _⟩, rfl, rfl, rfl⟩; exact ⟨rfl, rfl, rfl⟩
 refine Meets.mono (Meets.warm (d0 := .sl true () 5 (dCls G)) (Y := [.sl true () 5 (dCls G)]) (by simp only [AV.chilled, hm1, freeze_dCls]; exact h1) ?_) ?_
 ·rintro av X κ ⟨rfl, rfl, rfl⟩; exact ⟨rfl, by simp [T.allOwn], rfl⟩
 ·rintro av X κ ⟨av0, X0, ⟨rfl, rfl, _⟩, rfl, rfl, rfl⟩; exact ⟨rfl, rfl, rfl⟩
theorem owner_of {h : Hs} {x : Int} (hx : 0 ≤ x ∧ x < h.things.length) : ownerOf h x = ((gd h.things x).owner, 0) := by
 rw [ownerOf, isT_of hx, if_neg (by simp)]
theorem graph_seen {h : Hs} {who x : Int} (hz : (graphOf h who x).2 = 0) : (gd h.things x).owner = who ∨ (gd h.things x).owner = -1 := by
 by_cases ha : askOf h who [x] = 0
 ·exact (ask_seen ha (x := x) (by simp)).2
 ·rw [graphOf, if_pos ha] at hz; exact absurd hz ha
theorem get_seen {h : Hs} (k : Hok h) {who x i : Int} (hz : (getOf h who x i).2 = 0) : (0 ≤ (getOf h who x i).1 ∧ (getOf h who x i).1 < h.things.length) ∧
  ((gd h.things (getOf h who x i).1).owner = who ∨ (gd h.things (getOf h who x i).1).owner = -1) ∧ ((gd h.things x).owner = -1 → (gd h.things (getOf h who x i).1).owner = -1) := by
 rw [getOf] at hz ⊢
 split at hz
 ·cases hz
 ·rename_i hi
  split at hz
  ·rename_i ha; exact absurd hz ha
  ·rename_i ha
   rw [if_neg hi, if_neg ha]
   have ha0 : askOf h who [x] = 0 := Classical.byContradiction ha
   obtain ⟨hx, ho⟩ := ask_seen ha0 (x := x) (by simp)
   have hi0 : indexOf h x i = 0 := Classical.byContradiction hi
   rw [indexOf] at hi0
   split at hi0
   ·cases hi0
   ·rename_i hn
    have hlt : ¬ i < 0 ∧ i < (gd h.things x).items.length := by
     refine ⟨fun hc => hn ⟨isT_of hx, .inr (.inl hc)⟩, ?_⟩
     refine Classical.byContradiction fun hc => hn ⟨isT_of hx, .inr (.inr (by omega))⟩
    obtain ⟨j, rfl⟩ : ∃ j : Nat, i = j := ⟨i.toNat, by omega⟩
    have hj : j < (gd h.things x).items.length := by omega
    obtain ⟨n, rfl, hn', e⟩ := gd_in hx
    have hm : (gd h.things (n : Int)).items.getD (j : Int).toNat 0 ∈ h.things[n].items := by
     rw [← e]
     have : (gd h.things (n : Int)).items.getD (j : Int).toNat 0 = (gd h.things (n : Int)).items[j] := by simp only [Int.toNat_natCast]; rw [List.getD_eq_getElem?_getD, List.getElem?_eq_getElem hj]; rfl
     rw [this]; exact List.getElem_mem hj
    generalize (gd h.things (n : Int)).items.getD (j : Int).toNat 0 = y at hm ⊢
    have hap := k.apart _ (List.getElem_mem hn') _ hm
    have hit := k.items _ (List.getElem_mem hn') _ hm
    rw [← e] at hap
    refine ⟨hit, ?_, fun h1 => ?_⟩
    ·rcases hap with h1 | h1
     ·rw [gd, h1]; exact ho
     ·exact .inr h1
    ·rcases hap with h2 | h2
     ·rw [gd, h2, h1]
     ·exact h2
theorem apart_ok (nn : Int) (L : List Ld) (ex : Bool) : Meets Try.prog 5 [] (.cons (avInt nn) (.cons (.imm 6 (dLds L) ex) .nil)) fun av X κ => av = .val (.bool true) := by
 refine fb Try.func5 Try.ntmps5 [.tmp 4] fun w0 I0 F0 hF => ?_
 repeat first|refine n1 ?_|((first|refine rg 0 [0, 1] [0, 1] [] ?_|refine rg 1 [0, 1] [5, 6, 7] [] ?_);simp (maxSteps := 1000000) [hF])
 refine (played_ok nn L ex).go [] (by simp (maxSteps := 1000000) [hF]) ?_;rintro av X κ ⟨n, h, fl, h1, h2, hf, rfl, rfl, rfl⟩;simp (maxSteps := 1000000) [hF]
 have hok := hf.good.ok
 have hrl := hf.rooms
 have htl := hok.things
 have hnl : (norm h).things.length = h.things.length := by simp [norm]
 have hkn := norm_hok.2 hok
 have hg : eH h fl = .box true () (.agg (.cons (.val (.bool true)) (.cons (.sl true () 2 (eRmsF fl h.rooms)) (.cons (.sl true () 5 (eTgs true h.things)) .nil)))) := rfl
 repeat first|refine n1 ?_|refine n2 ?_|refine n3 ?_|((first|refine rg 2 [5, 6, 7] [5, 6, 27] [] ?_|refine rg 4 [5, 6] [5, 6, 8] [] ?_|refine nc ?_);simp (maxSteps := 1000000) [hF])
 refine VS.rounds (fun m st => ∃ (x : Nat), x + m = h.things.length ∧ st = ⟨[(5, .ptr 0 [.d]), (6, .ptr 1 [.d]), (8, avInt x)], [dH (norm h), eH h fl], [], []⟩) ⟨h.things.length, 0, by omega, by simp [hg, dH, norm]⟩ ?_
 rintro m st ⟨x, hx, rfl⟩
 repeat first|refine n1 ?_|(refine rg 5 [5, 6, 8] [5, 6, 8, 31] [] ?_;simp (maxSteps := 1000000) [hF])
 refine (len_c (norm h)).go [(0, [])] (by simp (maxSteps := 1000000) [hF, hnl, dH]) ?_;rintro av X κ ⟨rfl, rfl, rfl⟩;simp (maxSteps := 1000000) [hF, hnl, dH]
 repeat first|(refine nc ?_;simp (maxSteps := 1000000) [hF])
 refine ⟨fun hlt => ?_, fun hge => ?_⟩
 ·have hxv : 0 ≤ (x : Int) ∧ (x : Int) < h.things.length := by omega
  have hO := owner_of hxv
  obtain ⟨o, ho⟩ : ∃ o, o = (gd h.things (x : Int)).owner := ⟨_, rfl⟩
  rw [← ho] at hO
  have hwx : IntKind.i64.wrap ((x : Int) + 1) = (x + 1 : Nat) := by rw [IntWalk.i64_in _ (by omega)]; rfl
  repeat first|refine n1 ?_|refine n2 ?_|refine n3 ?_|(refine rg 7 [5, 6, 8] [5, 6, 8, 9, 10] [] ?_;simp (maxSteps := 1000000) [hF])
  refine (owner_c (norm h) x).go [(0, [])] (by simp (maxSteps := 1000000) [hF, t_owner, hO, dH]) ?_;rintro av X κ ⟨rfl, rfl, rfl⟩;simp (maxSteps := 1000000) [hF, t_owner, hO, dH]
  repeat first|refine n1 ?_|refine n2 ?_|refine n3 ?_|((first|refine rg 8 [5, 6, 8, 9, 10] [5, 6, 8, 9, 41] [] ?_|refine rg 10 [5, 6, 8, 9] [5, 6, 8, 9, 11] [] ?_|refine nc ?_);simp (maxSteps := 1000000) [hF])
  refine VS.rounds (fun m st => ∃ (w : Nat), w + m = h.rooms.length ∧ st = ⟨[(5, .ptr 0 [.d]), (6, .ptr 1 [.d]), (8, avInt x), (9, avInt o), (11, avInt w)], [dH (norm h), eH h fl], [], []⟩) ⟨h.rooms.length, 0, by omega, by simp [hg, dH, norm]⟩ ?_
  rintro m2 st ⟨w, hw, rfl⟩
  repeat first|refine n1 ?_|((first|refine rg 11 [5, 6, 8, 9, 11] [5, 6, 8, 9, 11, 48] [] ?_|refine nc ?_);simp (maxSteps := 1000000) [hF, hg])
  refine ⟨fun hlt2 => ?_, fun hge2 => ?_⟩
  ·have hww : IntKind.i64.wrap ((w : Int) + 1) = (w + 1 : Nat) := by rw [IntWalk.i64_in _ (by omega)]; rfl
   have hmw : ¬ (-1 : Int) = w := by omega
   repeat first|refine n1 ?_|refine n2 ?_|refine n3 ?_|(refine rg 13 [5, 6, 8, 9, 11] [5, 6, 8, 9, 11, 13] [] ?_;simp (maxSteps := 1000000) [hF])
   refine (graph_c (norm h) hkn w x).go [(0, [])] (by simp (maxSteps := 1000000) [hF, t_graph, dH]) ?_;rintro av X κ ⟨rfl, rfl, rfl⟩;simp (maxSteps := 1000000) [hF, t_graph, dH]
   apply merge
   ·intro key
    by_cases hz : (graphOf h w x).2 = 0
    ·have hs := graph_seen hz
     rw [← ho] at hs
     have hcond : ((graphOf h w x).2 = 0) = True := by simp [hz]
     rcases hs with hs | hs
     ·have hs' : (o = (w : Int)) = True := by simp [hs]
      repeat first|refine n1 ?_|refine n2 ?_|((first|refine rg 14 [5, 6, 8, 9, 11, 13] [5, 6, 8, 9, 11, 68] [(2, 60), (7, 65)] ?_|refine nc ?_);simp (maxSteps := 1000000) [hF, hcond, hs'])
      refine VS.pick [5, 6, 8, 9, 11] [0, 1] (by simp [hF]) ?_;simp [hF]
      exact key
     ·have hs' : (o = (w : Int)) = False := by simp; omega
      have hs2 : (o = -1) = True := by simp [hs]
      repeat first|refine n1 ?_|refine n2 ?_|((first|refine rg 14 [5, 6, 8, 9, 11, 13] [5, 6, 8, 9, 11, 68] [(2, 60), (7, 65)] ?_|refine nc ?_);simp (maxSteps := 1000000) [hF, hcond, hs', hs2])
      refine VS.pick [5, 6, 8, 9, 11] [0, 1] (by simp [hF]) ?_;simp [hF]
      exact key
    ·have hcond : ((graphOf h w x).2 = 0) = False := by simp [hz]
     repeat first|refine n1 ?_|refine n2 ?_|((first|refine rg 14 [5, 6, 8, 9, 11, 13] [5, 6, 8, 9, 11, 68] [(2, 60), (7, 65)] ?_|refine nc ?_);simp (maxSteps := 1000000) [hF, hcond])
     refine VS.pick [5, 6, 8, 9, 11] [0, 1] (by simp [hF]) ?_;simp [hF]
     exact key
   repeat first|refine n3 ?_|(refine rg 16 [5, 6, 8, 9, 11] [5, 6, 8, 9, 11, 14] [] ?_;simp (maxSteps := 1000000) [hF])
   refine VS.rounds (fun m st => ∃ (i : Nat), i + m = 50 ∧ st = ⟨[(5, .ptr 0 [.d]), (6, .ptr 1 [.d]), (8, avInt x), (9, avInt o), (11, avInt w), (14, avInt i)], [dH (norm h), eH h fl], [], []⟩) ⟨50, 0, by omega, by simp [hg, dH, norm]⟩ ?_
   rintro m3 st ⟨i, hi, rfl⟩
   have hwi : IntKind.i64.wrap ((i : Int) + 1) = (i + 1 : Nat) := by rw [IntWalk.i64_in _ (by omega)]; rfl
   repeat first|refine n1 ?_|((first|refine rg 17 [5, 6, 8, 9, 11, 14] [5, 6, 8, 9, 11, 14, 70] [] ?_|refine nc ?_);simp (maxSteps := 1000000) [hF])
   refine ⟨fun hlt3 => ?_, fun hge3 => ?_⟩
   ·repeat first|refine n1 ?_|refine n2 ?_|refine n3 ?_|(refine rg 19 [5, 6, 8, 9, 11, 14] [5, 6, 8, 9, 11, 14, 15, 16] [] ?_;simp (maxSteps := 1000000) [hF])
    refine (get_c (norm h) w x i).go [(0, [])] (by simp (maxSteps := 1000000) [hF, t_get, dH]) ?_;rintro av X κ ⟨rfl, rfl, rfl⟩;simp (maxSteps := 1000000) [hF, t_get, dH]
    by_cases hz : (getOf h w x i).2 = 0
    ·have hz' : ((getOf h w x i).2 = 0) = True := by simp [hz]
     obtain ⟨g1, g2, g3⟩ := get_seen hok hz
     have hOy := owner_of g1
     generalize (getOf h w x i).1 = y at *
     obtain ⟨p, hp⟩ : ∃ p, p = (gd h.things y).owner := ⟨_, rfl⟩
     rw [← hp] at hOy g2 g3
     rw [← ho] at g3
     repeat first|refine n1 ?_|refine n2 ?_|((first|refine rg 20 [5, 6, 8, 9, 11, 14, 15, 16] [5, 6, 8, 9, 11, 14, 15, 82] [] ?_|refine rg 21 [5, 6, 8, 9, 11, 14, 15] [5, 6, 8, 9, 11, 14, 17, 18] [] ?_|refine nc ?_);simp (maxSteps := 1000000) [hF, hz'])
     refine (owner_c (norm h) y).go [(0, [])] (by simp (maxSteps := 1000000) [hF, t_owner, hOy, dH]) ?_;rintro av X κ ⟨rfl, rfl, rfl⟩;simp (maxSteps := 1000000) [hF, t_owner, hOy, dH]
     by_cases hpm : p = -1
     ·have e1 : (p = (w : Int)) = False := by simp; omega
      have e2 : (p = -1) = True := by simp [hpm]
      repeat first|refine n1 ?_|refine n2 ?_|refine n4 ?_|refine n5 ?_|refine n6 ?_|((first|refine rg 18 [5, 6, 8, 9, 11, 14] [5, 6, 8, 9, 11, 14] [] ?_|refine rg 22 [5, 6, 8, 9, 11, 14, 17, 18] [5, 6, 8, 9, 11, 14, 107] [(2, 91), (6, 95), (11, 100), (14, 103)] ?_|refine nc ?_);simp (maxSteps := 1000000) [hF, e1, e2, hwi])
      refine nextK.of [5, 6, 8, 9, 11, 14] [0, 1] (m3 - 1) (by omega) (by simp [hF]) ?_
      exact ⟨i + 1, by omega, by simp [hg, dH, norm]⟩
     ·have e1 : (p = (w : Int)) = True := by simp; omega
      have e2 : (p = -1) = False := by simp [hpm]
      have e3 : (o = -1) = False := by simp; exact fun e => hpm (g3 e)
      repeat first|refine n1 ?_|refine n2 ?_|refine n4 ?_|refine n5 ?_|refine n6 ?_|((first|refine rg 18 [5, 6, 8, 9, 11, 14] [5, 6, 8, 9, 11, 14] [] ?_|refine rg 22 [5, 6, 8, 9, 11, 14, 17, 18] [5, 6, 8, 9, 11, 14, 107] [(2, 91), (6, 95), (11, 100), (14, 103)] ?_|refine nc ?_);simp (maxSteps := 1000000) [hF, e1, e2, e3, hwi])
      refine nextK.of [5, 6, 8, 9, 11, 14] [0, 1] (m3 - 1) (by omega) (by simp [hF]) ?_
      exact ⟨i + 1, by omega, by simp [hg, dH, norm]⟩
    ·have hz' : ((getOf h w x i).2 = 0) = False := by simp [hz]
     repeat first|refine n1 ?_|refine n4 ?_|refine n5 ?_|refine n6 ?_|refine n7 ?_|((first|refine rg 12 [5, 6, 8, 9, 11] [5, 6, 8, 9, 11] [] ?_|refine rg 20 [5, 6, 8, 9, 11, 14, 15, 16] [5, 6, 8, 9, 11, 14, 15, 82] [] ?_|refine nc ?_);simp (maxSteps := 1000000) [hF, hz', hww])
     refine nextK.of [5, 6, 8, 9, 11] [0, 1] (m2 - 1) (by omega) (by simp [hF]) ?_
     exact ⟨w + 1, by omega, by simp [hg, dH, norm]⟩
   ·repeat first|refine n4 ?_|refine n5 ?_|refine n6 ?_|refine n7 ?_|(refine rg 12 [5, 6, 8, 9, 11] [5, 6, 8, 9, 11] [] ?_;simp (maxSteps := 1000000) [hF, hww])
    refine nextK.of [5, 6, 8, 9, 11] [0, 1] (m2 - 1) (by omega) (by simp [hF]) ?_
    exact ⟨w + 1, by omega, by simp [hg, dH, norm]⟩
  ·repeat first|refine n4 ?_|refine n5 ?_|refine n6 ?_|refine n7 ?_|(refine rg 6 [5, 6, 8] [5, 6, 8] [] ?_;simp (maxSteps := 1000000) [hF, hwx])
   refine nextK.of [5, 6, 8] [0, 1] (m - 1) (by omega) (by simp [hF]) ?_
   exact ⟨x + 1, by omega, by simp [hg, dH, norm]⟩
 ·repeat first|refine n1 ?_|refine n7 ?_|(refine rg 24 [] [4] [] ?_;simp (maxSteps := 1000000) [hF])
  refine (sane_ok).go [] (by simp (maxSteps := 1000000) [hF]) ?_;rintro av X κ ⟨rfl, rfl, rfl⟩;simp (maxSteps := 1000000) [hF]
  (try refine nr ?_);(repeat first|refine nb_ ?_|refine nl_ ?_);refine endK.o [4] [] [] ?_;simp [hF, retK, covers, mpre]
def avAsk (a b c : Int) : AV := .agg (.cons (avInt a) (.cons (avInt b) (.cons (avInt c) .nil)))
theorem asks_ok (nn : Int) (L : List Ld) (ex : Bool) (a b c : Int) : Meets Try.prog 7 [] (.cons (avInt nn) (.cons (.imm 6 (dLds L) ex) (.cons (avAsk a b c) .nil))) fun av X κ => av = .val (.bool true) := by
 unfold avAsk
 refine fb Try.func7 Try.ntmps7 [.tmp 6] fun w0 I0 F0 hF => ?_
 repeat first|refine n1 ?_|((first|refine rg 0 [0, 1, 2] [0, 1, 5] [] ?_|refine rg 1 [0, 1, 5] [5, 7, 8, 9] [] ?_);simp (maxSteps := 1000000) [hF])
 refine (played_ok nn L ex).go [] (by simp (maxSteps := 1000000) [hF]) ?_;rintro av X κ ⟨n, h, fl, h1, h2, hf, rfl, rfl, rfl⟩;simp (maxSteps := 1000000) [hF]
 have hok := hf.good.ok
 have hrl := hf.rooms
 have htl := hok.things
 have hg : eH h fl = .box true () (.agg (.cons (.val (.bool true)) (.cons (.sl true () 2 (eRmsF fl h.rooms)) (.cons (.sl true () 5 (eTgs true h.things)) .nil)))) := rfl
 have ht : ∀ w x i : Int, _ := fun w x i => thing_c h fl hok w x i
 rw [hg] at ht
 repeat first|refine n1 ?_|refine n2 ?_|((first|refine rg 2 [5, 7, 8, 9] [5, 7, 8, 18] [] ?_|(refine dr 4 0 [5, 7, 8] [6] [(9, 28), (33, 52)] [⟨0, 128, 524288, 5⟩, ⟨0, 256, 1048576, 5⟩, ⟨0, 32, 2097152, 5⟩, ⟨4, 2097152, 4194304, 6⟩, ⟨0, 32, 8388608, 5⟩, ⟨16, 8388608, 16777216, 6⟩, ⟨0, 32, 33554432, 5⟩, ⟨64, 33554432, 67108864, 6⟩, ⟨171, 89653248, 134217728, 0⟩, ⟨256, 134217728, 268435456, 5⟩, ⟨512, 268435584, 536870912, 5⟩, ⟨512, 268435712, 1073741824, 5⟩, ⟨512, 268435488, 2147483648, 5⟩, ⟨4608, 2415919104, 4294967296, 6⟩, ⟨512, 268435712, 8589934592, 5⟩, ⟨16896, 8858370048, 17179869184, 5⟩, ⟨33280, 17448304640, 34359738368, 5⟩, ⟨66048, 34628173824, 68719476736, 6⟩, ⟨131584, 68987912192, 137438953472, 5⟩, ⟨270848, 142002356224, 274877906944, 0⟩, ⟨512, 268435488, 549755813888, 5⟩, ⟨1049088, 550024249344, 1099511627776, 6⟩, ⟨512, 268435712, 2199023255552, 5⟩, ⟨4194816, 2199291691008, 4398046511104, 5⟩, ⟨8389120, 4398314946560, 8796093022208, 5⟩, ⟨16777728, 8796361457664, 17592186044416, 6⟩, ⟨33554944, 17592454479872, 35184372088832, 5⟩, ⟨69730816, 36284152152064, 70368744177664, 0⟩, ⟨512, 268435488, 140737488355328, 5⟩, ⟨268435968, 140737756790784, 281474976710656, 6⟩, ⟨671089152, 281475245146112, 562949953421312, 0⟩, ⟨1208487424, 633595454554112, 1125899906842624, 0⟩, ⟨2147484160, 1125900175278080, 2251799813685248, 5⟩, ⟨6442450944, 2251799813685248, 4503599627370496, 5⟩, ⟨8589934592, 4503599627370496, 9007199254740992, 0⟩, ⟨25769803776, 13510798882111488, 18014398509481984, 5⟩, ⟨68719476735, 18014398509481984, 64, 5⟩] (.take 0 (.take 1 (.take 2 (.take 3 (.take 4 (.take 5 (.take 6 (.take 7 (.fork (.alt 8 (.take 9 (.take 10 (.take 11 (.take 12 (.take 13 (.take 14 (.take 15 (.take 16 (.take 17 (.take 18 (.take 20 (.take 22 (.take 23 (.take 24 (.take 28 (.fork (.alt 19 (.take 21 (.take 25 (.take 26 (.fork (.alt 27 (.take 29 (.fork (.alt 30 (.fork (.alt 31 (.take 32 (.take 33 (.fork (.alt 34 (.take 35 (.take 36 (.done))) (.nil))))) (.nil))) (.nil)))) (.alt 29 (.fork (.alt 27 (.fork (.alt 30 (.fork (.alt 31 (.take 32 (.take 33 (.fork (.alt 34 (.take 35 (.take 36 (.done))) (.nil))))) (.nil))) (.nil))) (.nil))) (.nil))))))) (.alt 21 (.fork (.alt 19 (.take 25 (.take 26 (.fork (.alt 27 (.take 29 (.fork (.alt 30 (.fork (.alt 31 (.take 32 (.take 33 (.fork (.alt 34 (.take 35 (.take 36 (.done))) (.nil))))) (.nil))) (.nil)))) (.alt 29 (.fork (.alt 27 (.fork (.alt 30 (.fork (.alt 31 (.take 32 (.take 33 (.fork (.alt 34 (.take 35 (.take 36 (.done))) (.nil))))) (.nil))) (.nil))) (.nil))) (.nil)))))) (.alt 25 (.take 26 (.fork (.alt 19 (.fork (.alt 27 (.take 29 (.fork (.alt 30 (.fork (.alt 31 (.take 32 (.take 33 (.fork (.alt 34 (.take 35 (.take 36 (.done))) (.nil))))) (.nil))) (.nil)))) (.alt 29 (.fork (.alt 27 (.fork (.alt 30 (.fork (.alt 31 (.take 32 (.take 33 (.fork (.alt 34 (.take 35 (.take 36 (.done))) (.nil))))) (.nil))) (.nil))) (.nil))) (.nil)))) (.alt 29 (.fork (.alt 19 (.fork (.alt 27 (.fork (.alt 30 (.fork (.alt 31 (.take 32 (.take 33 (.fork (.alt 34 (.take 35 (.take 36 (.done))) (.nil))))) (.nil))) (.nil))) (.nil))) (.nil))) (.nil))))) (.alt 29 (.fork (.alt 19 (.take 25 (.take 26 (.fork (.alt 27 (.fork (.alt 30 (.fork (.alt 31 (.take 32 (.take 33 (.fork (.alt 34 (.take 35 (.take 36 (.done))) (.nil))))) (.nil))) (.nil))) (.nil))))) (.alt 25 (.take 26 (.fork (.alt 19 (.fork (.alt 27 (.fork (.alt 30 (.fork (.alt 31 (.take 32 (.take 33 (.fork (.alt 34 (.take 35 (.take 36 (.done))) (.nil))))) (.nil))) (.nil))) (.nil))) (.nil)))) (.nil)))) (.nil))))) (.alt 25 (.take 26 (.fork (.alt 19 (.take 21 (.fork (.alt 27 (.take 29 (.fork (.alt 30 (.fork (.alt 31 (.take 32 (.take 33 (.fork (.alt 34 (.take 35 (.take 36 (.done))) (.nil))))) (.nil))) (.nil)))) (.alt 29 (.fork (.alt 27 (.fork (.alt 30 (.fork (.alt 31 (.take 32 (.take 33 (.fork (.alt 34 (.take 35 (.take 36 (.done))) (.nil))))) (.nil))) (.nil))) (.nil))) (.nil))))) (.alt 21 (.fork (.alt 19 (.fork (.alt 27 (.take 29 (.fork (.alt 30 (.fork (.alt 31 (.take 32 (.take 33 (.fork (.alt 34 (.take 35 (.take 36 (.done))) (.nil))))) (.nil))) (.nil)))) (.alt 29 (.fork (.alt 27 (.fork (.alt 30 (.fork (.alt 31 (.take 32 (.take 33 (.fork (.alt 34 (.take 35 (.take 36 (.done))) (.nil))))) (.nil))) (.nil))) (.nil))) (.nil)))) (.alt 29 (.fork (.alt 19 (.fork (.alt 27 (.fork (.alt 30 (.fork (.alt 31 (.take 32 (.take 33 (.fork (.alt 34 (.take 35 (.take 36 (.done))) (.nil))))) (.nil))) (.nil))) (.nil))) (.nil))) (.nil)))) (.alt 29 (.fork (.alt 19 (.take 21 (.fork (.alt 27 (.fork (.alt 30 (.fork (.alt 31 (.take 32 (.take 33 (.fork (.alt 34 (.take 35 (.take 36 (.done))) (.nil))))) (.nil))) (.nil))) (.nil)))) (.alt 21 (.fork (.alt 19 (.fork (.alt 27 (.fork (.alt 30 (.fork (.alt 31 (.take 32 (.take 33 (.fork (.alt 34 (.take 35 (.take 36 (.done))) (.nil))))) (.nil))) (.nil))) (.nil))) (.nil))) (.nil)))) (.nil)))))) (.alt 29 (.fork (.alt 19 (.take 21 (.take 25 (.take 26 (.fork (.alt 27 (.fork (.alt 30 (.fork (.alt 31 (.take 32 (.take 33 (.fork (.alt 34 (.take 35 (.take 36 (.done))) (.nil))))) (.nil))) (.nil))) (.nil)))))) (.alt 21 (.fork (.alt 19 (.take 25 (.take 26 (.fork (.alt 27 (.fork (.alt 30 (.fork (.alt 31 (.take 32 (.take 33 (.fork (.alt 34 (.take 35 (.take 36 (.done))) (.nil))))) (.nil))) (.nil))) (.nil))))) (.alt 25 (.take 26 (.fork (.alt 19 (.fork (.alt 27 (.fork (.alt 30 (.fork (.alt 31 (.take 32 (.take 33 (.fork (.alt 34 (.take 35 (.take 36 (.done))) (.nil))))) (.nil))) (.nil))) (.nil))) (.nil)))) (.nil)))) (.alt 25 (.take 26 (.fork (.alt 19 (.take 21 (.fork (.alt 27 (.fork (.alt 30 (.fork (.alt 31 (.take 32 (.take 33 (.fork (.alt 34 (.take 35 (.take 36 (.done))) (.nil))))) (.nil))) (.nil))) (.nil)))) (.alt 21 (.fork (.alt 19 (.fork (.alt 27 (.fork (.alt 30 (.fork (.alt 31 (.take 32 (.take 33 (.fork (.alt 34 (.take 35 (.take 36 (.done))) (.nil))))) (.nil))) (.nil))) (.nil))) (.nil))) (.nil))))) (.nil))))) (.nil))))))))))))))))))))) (.nil))))))))))) (.run [0, 1, 2, 3, 4, 5, 6, 7, 8, 9, 10, 11, 12, 13, 14, 15, 16, 17, 18, 20, 22, 23, 24, 28] (.both (.run [19, 21, 25, 26] (.both (.run [27, 29, 30, 31, 32, 33, 34, 35, 36] (.done)) (.run [29, 27, 30, 31, 32, 33, 34, 35, 36] (.done)))) (.both (.run [21] (.both (.run [19, 25, 26] (.both (.run [27, 29, 30, 31, 32, 33, 34, 35, 36] (.done)) (.run [29, 27, 30, 31, 32, 33, 34, 35, 36] (.done)))) (.both (.run [25, 26] (.both (.run [19] (.both (.run [27, 29, 30, 31, 32, 33, 34, 35, 36] (.done)) (.run [29, 27, 30, 31, 32, 33, 34, 35, 36] (.done)))) (.run [29, 19, 27, 30, 31, 32, 33, 34, 35, 36] (.done)))) (.run [29] (.both (.run [19, 25, 26, 27, 30, 31, 32, 33, 34, 35, 36] (.done)) (.run [25, 26, 19, 27, 30, 31, 32, 33, 34, 35, 36] (.done))))))) (.both (.run [25, 26] (.both (.run [19, 21] (.both (.run [27, 29, 30, 31, 32, 33, 34, 35, 36] (.done)) (.run [29, 27, 30, 31, 32, 33, 34, 35, 36] (.done)))) (.both (.run [21] (.both (.run [19] (.both (.run [27, 29, 30, 31, 32, 33, 34, 35, 36] (.done)) (.run [29, 27, 30, 31, 32, 33, 34, 35, 36] (.done)))) (.run [29, 19, 27, 30, 31, 32, 33, 34, 35, 36] (.done)))) (.run [29] (.both (.run [19, 21, 27, 30, 31, 32, 33, 34, 35, 36] (.done)) (.run [21, 19, 27, 30, 31, 32, 33, 34, 35, 36] (.done))))))) (.run [29] (.both (.run [19, 21, 25, 26, 27, 30, 31, 32, 33, 34, 35, 36] (.done)) (.both (.run [21] (.both (.run [19, 25, 26, 27, 30, 31, 32, 33, 34, 35, 36] (.done)) (.run [25, 26, 19, 27, 30, 31, 32, 33, 34, 35, 36] (.done)))) (.run [25, 26] (.both (.run [19, 21, 27, 30, 31, 32, 33, 34, 35, 36] (.done)) (.run [21, 19, 27, 30, 31, 32, 33, 34, 35, 36] (.done))))))))))) ?_;simp only [drs])|refine nc ?_);simp (maxSteps := 1000000) [hF, hg])
 all_goals (repeat' with_reducible refine And.intro ?_ ?_)
 all_goals (refine (thing_c h fl hok a b c).go [(2, []), (1, [])] (by simp (maxSteps := 1000000) [hF, hg, dH]) ?_;rintro av X κ ⟨rfl, rfl, rfl⟩;simp (maxSteps := 1000000) [hF, hg, dH])
 all_goals (repeat' with_reducible refine And.intro ?_ ?_)
 all_goals (refine (fit_ok a h.rooms.length (by omega)).go [] (by simp (maxSteps := 1000000) [hF, hg]) ?_;rintro av X κ ⟨rfl, rfl, rfl⟩;simp (maxSteps := 1000000) [hF, hg])
 all_goals (repeat' with_reducible refine And.intro ?_ ?_)
 all_goals (refine (fit_ok b h.things.length (by omega)).go [] (by simp (maxSteps := 1000000) [hF, hg]) ?_;rintro av X κ ⟨rfl, rfl, rfl⟩;simp (maxSteps := 1000000) [hF, hg])
 all_goals (repeat' with_reducible refine And.intro ?_ ?_)
 all_goals (refine (fit_ok c 4 (by omega)).go [] (by simp (maxSteps := 1000000) [hF, hg]) ?_;rintro av X κ ⟨rfl, rfl, rfl⟩;simp (maxSteps := 1000000) [hF, hg])
 all_goals (repeat' with_reducible refine And.intro ?_ ?_)
 all_goals (refine (thing_c h fl hok (fitN a h.rooms.length) (fitN b h.things.length) (fitN c 4)).go [(2, []), (1, [])] (by simp (maxSteps := 1000000) [hF, hg, dH]) ?_;rintro av X κ ⟨rfl, rfl, rfl⟩;simp (maxSteps := 1000000) [hF, hg, dH])
 all_goals (repeat' with_reducible refine And.intro ?_ ?_)
 all_goals (refine (sane_ok).go [] (by simp (maxSteps := 1000000) [hF, hg]) ?_;rintro av X κ ⟨rfl, rfl, rfl⟩;simp (maxSteps := 1000000) [hF, hg])
 all_goals (repeat' with_reducible refine And.intro ?_ ?_)
 all_goals ((try refine nr ?_);(repeat first|refine nb_ ?_|refine nl_ ?_);refine endK.o [6] [] [] ?_;simp [hF, retK, covers, mpre])
theorem graph_ask {h : Hs} {who x : Int} (hz : (graphOf h who x).2 = 0) : askOf h who [x] = 0 := by
 by_cases ha : askOf h who [x] = 0
 ·exact ha
 ·rw [graphOf, if_pos ha] at hz; exact absurd hz ha
theorem send_fail {h : Hs} {who to x : Int} (hz : ¬ (sendE h who to x).2.2 = 0) : (sendE h who to x).1 = h := by
 rw [sendE] at hz ⊢
 split
 ·rfl
 ·split
  ·rfl
  ·split
   ·rfl
   ·rename_i h1 h2 h3
    rw [if_neg h1, if_neg h2, if_neg h3] at hz
    exact absurd rfl hz
theorem send_after {n : Nat} {h : Hs} (f : Fine n h) {who to x : Int} (hx : 0 ≤ x ∧ x < h.things.length) (hns : ¬ (gd h.things x).owner = -1) (ha : askOf h who [x] = 0) :
  graphOf (sendE h who to x).1 who x = graphOf h who x ∧ askOf (sendE h who to x).1 who [x] = 0 ∧ ¬ (gd (sendE h who to x).1.things x).owner = -1 := by
 have hg0 : (graphOf h who x).2 = 0 := by rw [graph_of ha]
 by_cases hz : (sendE h who to x).2.2 = 0
 ·obtain ⟨_, h2, _, _⟩ := send_graph f hz hns ha
  refine ⟨h2, graph_ask (by rw [h2]; exact hg0), ?_⟩
  obtain ⟨_, _, _, _, _, _, e⟩ := send_zero hz
  rw [e]
  have : ∀ (T : List Tg) (r : List Rm) (to y : Int), (putOf ⟨r, T⟩ to y).things = T := fun _ _ _ _ => rfl
  show ¬ (gd (h.things ++ _) x).owner = -1
  rw [gd_app hx]; exact hns
 ·rw [send_fail hz]; exact ⟨rfl, ha, hns⟩
theorem graph_rows {n : Nat} {h : Hs} (f : Fine n h) (who x : Int) : (graphOf h who x).1.length ≤ 100000 ∧ ∀ c ∈ (graphOf h who x).1, c.items.length ≤ 100000 := by
 obtain ⟨_, _, h1, h2⟩ := graph_rel f.good.ok who x
 exact ⟨by omega, fun c hc => by have := h2 c hc; omega⟩
theorem sends_law (nn : Int) (L : List Ld) (ex : Bool) (a b c : Int) : Meets Try.prog 3 [] (.cons (avInt nn) (.cons (.imm 6 (dLds L) ex) (.cons (avAsk a b c) .nil))) fun av X κ => av = .val (.bool true) := by
 unfold avAsk
 refine fb Try.func3 Try.ntmps3 [.tmp 6] fun w0 I0 F0 hF => ?_
 repeat first|refine n1 ?_|((first|refine rg 0 [0, 1, 2] [0, 1, 5] [] ?_|refine rg 1 [0, 1, 5] [5, 7, 8, 9] [] ?_);simp (maxSteps := 1000000) [hF])
 refine (played_ok nn L ex).go [] (by simp (maxSteps := 1000000) [hF]) ?_;rintro av X κ ⟨n, h, fl, h1, h2, hf, rfl, rfl, rfl⟩;simp (maxSteps := 1000000) [hF]
 have hok := hf.good.ok
 have hrl := hf.rooms
 have htl := hok.things
 have hkn := norm_hok.2 hok
 have hg : eH h fl = .box true () (.agg (.cons (.val (.bool true)) (.cons (.sl true () 2 (eRmsF fl h.rooms)) (.cons (.sl true () 5 (eTgs true h.things)) .nil)))) := rfl
 by_cases h0 : h.things.length = 0
 ·have h00 : h.things = [] := List.eq_nil_of_length_eq_zero h0
  have h0i : (h.things.length : Int) = 0 := by omega
  repeat first|refine n1 ?_|((first|refine rg 2 [5, 7, 8, 9] [5, 7, 8, 9, 42] [(2, 35)] ?_|refine rg 3 [9] [6] [(1, 44)] ?_|refine nc ?_);simp (maxSteps := 1000000) [hF, hg, h0, h0i, h00])
  refine (sane_ok).go [] (by simp (maxSteps := 1000000) [hF]) ?_;rintro av X κ ⟨rfl, rfl, rfl⟩;simp (maxSteps := 1000000) [hF]
  (try refine nr ?_);(repeat first|refine nb_ ?_|refine nl_ ?_);refine endK.o [6] [] [] ?_;simp [hF, retK, covers, mpre]
 ·have h0i : ¬ (h.things.length : Int) = 0 := by omega
  have h00 : ¬ h.things = [] := fun e => h0 (by simp [e])
  have hxl := fitN_lt b (n := h.things.length) (by omega)
  have htl2 := fitN_lt a (n := h.rooms.length) (by omega)
  repeat first|refine n1 ?_|refine n2 ?_|((first|refine rg 2 [5, 7, 8, 9] [5, 7, 8, 9, 42] [(2, 35)] ?_|(refine dr 4 0 [5, 7, 8] [5, 7, 8, 10] [] [⟨0, 32, 140737488355328, 5⟩, ⟨1, 140737488355328, 281474976710656, 6⟩, ⟨0, 256, 562949953421312, 5⟩, ⟨4, 562949953421312, 1125899906842624, 5⟩, ⟨8, 1125899906842624, 2251799813685248, 5⟩, ⟨16, 2251799813685248, 4503599627370496, 6⟩, ⟨32, 4503599627370496, 9007199254740992, 5⟩, ⟨66, 9288674231451648, 18014398509481984, 0⟩, ⟨255, 18014398509481984, 1024, 5⟩] (.take 0 (.take 1 (.take 2 (.take 3 (.take 4 (.take 5 (.take 6 (.fork (.alt 7 (.take 8 (.done)) (.nil)))))))))) (.run [0, 1, 2, 3, 4, 5, 6, 7, 8] (.done)) ?_;simp only [drs])|refine nc ?_);simp (maxSteps := 1000000) [hF, hg, h0, h0i, h00])
  refine (fit_ok b h.things.length (by omega)).go [] (by simp (maxSteps := 1000000) [hF, hg]) ?_;rintro av X κ ⟨rfl, rfl, rfl⟩;simp (maxSteps := 1000000) [hF, hg]
  repeat first|refine n1 ?_|((refine dr 5 0 [5, 7, 8, 10] [7, 10, 11] [] [⟨0, 32, 36028797018963968, 5⟩, ⟨1, 36028797018963968, 72057594037927936, 6⟩, ⟨0, 256, 144115188075855872, 5⟩, ⟨4, 144115188075855872, 288230376151711744, 5⟩, ⟨8, 288230376151711744, 576460752303423488, 5⟩, ⟨16, 576460752303423488, 1152921504606846976, 6⟩, ⟨32, 1152921504606846976, 2305843009213693952, 5⟩, ⟨66, 2377900603251621888, 4611686018427387904, 0⟩, ⟨255, 4611686018427387904, 2048, 5⟩] (.take 0 (.take 1 (.take 2 (.take 3 (.take 4 (.take 5 (.take 6 (.fork (.alt 7 (.take 8 (.done)) (.nil)))))))))) (.run [0, 1, 2, 3, 4, 5, 6, 7, 8] (.done)) ?_;simp only [drs]);simp (maxSteps := 1000000) [hF, hg])
  refine (fit_ok a h.rooms.length (by omega)).go [] (by simp (maxSteps := 1000000) [hF, hg]) ?_;rintro av X κ ⟨rfl, rfl, rfl⟩;simp (maxSteps := 1000000) [hF, hg]
  generalize fitN b h.things.length = x at *
  generalize fitN a h.rooms.length = to at *
  have hxv : 0 ≤ (x : Int) ∧ (x : Int) < h.things.length := by omega
  have hO := owner_of hxv
  obtain ⟨w, hw⟩ : ∃ w, w = (gd h.things (x : Int)).owner := ⟨_, rfl⟩
  rw [← hw] at hO
  repeat first|refine n1 ?_|(refine rg 6 [7, 10, 11] [7, 10, 11, 12, 13] [] ?_;simp (maxSteps := 1000000) [hF])
  refine (owner_c (norm h) x).go [(1, [])] (by simp (maxSteps := 1000000) [hF, t_owner, hO, dH]) ?_;rintro av X κ ⟨rfl, rfl, rfl⟩;simp (maxSteps := 1000000) [hF, t_owner, hO, dH]
  repeat first|refine n1 ?_|refine n2 ?_|((first|refine rg 7 [7, 10, 11, 12, 13] [7, 10, 11, 12, 70] [] ?_|refine rg 9 [7, 10, 11, 12] [7, 10, 11, 12, 72] [] ?_|refine nc ?_);simp (maxSteps := 1000000) [hF])
  refine ⟨fun hneg => ?_, fun hpos => ?_⟩
  ·repeat first|refine n1 ?_|(refine rg 10 [] [6] [] ?_;simp (maxSteps := 1000000) [hF])
   refine (sane_ok).go [] (by simp (maxSteps := 1000000) [hF]) ?_;rintro av X κ ⟨rfl, rfl, rfl⟩;simp (maxSteps := 1000000) [hF]
   (try refine nr ?_);(repeat first|refine nb_ ?_|refine nl_ ?_);refine endK.o [6] [] [] ?_;simp [hF, retK, covers, mpre]
  ·have hgm : gd h.things (x : Int) ∈ h.things := by rw [gd_at hxl]; exact List.getElem_mem hxl
   have how := hok.owners _ hgm
   have hlv := hf.live _ hgm (by omega)
   rw [← hw] at how hlv
   have ha : askOf h w [(x : Int)] = 0 := ask_ok1 (by omega) hxv hlv (.inl hw.symm)
   have hns : ¬ (gd h.things (x : Int)).owner = -1 := by omega
   have hg0 : (graphOf h w x).2 = 0 := by rw [graph_of ha]
   obtain ⟨hgl, hgi⟩ := graph_rows hf w x
   obtain ⟨sa1, sa2, sa3⟩ := send_after hf (to := to) hxv hns ha
   have hf1 := f_send hf w to x
   repeat first|refine n1 ?_|refine n2 ?_|(refine rg 11 [7, 10, 11, 12] [7, 10, 11, 12, 14, 15] [] ?_;simp (maxSteps := 1000000) [hF])
   refine (graph_c (norm h) hkn w x).go [(1, [])] (by simp (maxSteps := 1000000) [hF, t_graph, hg0, dH]) ?_;rintro av X κ ⟨rfl, rfl, rfl⟩;simp (maxSteps := 1000000) [hF, t_graph, hg0, dH]
   repeat first|refine n1 ?_|refine n2 ?_|((first|refine rg 12 [7, 10, 11, 12, 14, 15] [7, 10, 11, 12, 14, 82] [] ?_|refine rg 14 [7, 10, 11, 12, 14] [7, 10, 11, 12, 14, 16, 17] [] ?_|refine nc ?_);simp (maxSteps := 1000000) [hF])
   refine (send_ok (norm h) hkn w to x).go [(1, [])] (by simp (maxSteps := 1000000) [hF, t_send hok, nrm, dH]) ?_;rintro av X κ ⟨rfl, rfl, rfl⟩;simp (maxSteps := 1000000) [hF, t_send hok, nrm, dH]
   have hnx : Hok (norm (sendE h w to x).1) := norm_hok.2 hf1.good.ok
   apply merged
   ·intro key
    by_cases hz : (sendE h w to x).2.2 = 0
    ·obtain ⟨s1, s2, s3, _⟩ := send_graph hf hz hns ha
     have hz' : ((sendE h w to x).2.2 = 0) = True := by simp [hz]
     have s3' : ((sendE h w to x).2.1 = (x : Int)) = False := by simp [s3]
     repeat first|refine n1 ?_|((first|refine rg 15 [7, 10, 11, 12, 14, 16, 17] [7, 10, 11, 12, 14, 16, 92] [] ?_|refine rg 16 [7, 10, 11, 12, 14, 16] [7, 10, 11, 12, 14, 16, 18, 19] [] ?_|refine nc ?_);simp (maxSteps := 1000000) [hF, hz'])
     refine (graph_c (norm (sendE h w to x).1) hnx to (sendE h w to x).2.1).go [(1, [])] (by simp (maxSteps := 1000000) [hF, t_graph, s1, hg0, dH]) ?_;rintro av X κ ⟨rfl, rfl, rfl⟩;simp (maxSteps := 1000000) [hF, t_graph, s1, hg0, dH]
     repeat first|refine n1 ?_|(refine rg 17 [7, 10, 11, 12, 14, 16, 18, 19] [7, 10, 11, 12, 14, 16, 18, 19, 20, 21] [] ?_;simp (maxSteps := 1000000) [hF])
     refine (graph_c (norm (sendE h w to x).1) hnx w x).go [(1, [])] (by simp (maxSteps := 1000000) [hF, t_graph, s2, hg0, dH]) ?_;rintro av X κ ⟨rfl, rfl, rfl⟩;simp (maxSteps := 1000000) [hF, t_graph, s2, hg0, dH]
     repeat first|refine n1 ?_|(refine rg 18 [7, 10, 11, 12, 14, 16, 18, 19, 20, 21] [7, 10, 11, 12, 14, 129] [(2, 109), (6, 113), (12, 119), (18, 125)] ?_;simp (maxSteps := 1000000) [hF])
     refine (same_r (graphOf h w x).1 hgl hgi).go [(3, []), (4, [])] (by simp (maxSteps := 1000000) [hF, dH, s3']) ?_;rintro av X κ ⟨rfl, rfl, rfl⟩;simp (maxSteps := 1000000) [hF, dH, s3']
     refine (same_r (graphOf h w x).1 hgl hgi).go [(3, []), (5, [])] (by simp (maxSteps := 1000000) [hF, dH, s3']) ?_;rintro av X κ ⟨rfl, rfl, rfl⟩;simp (maxSteps := 1000000) [hF, dH, s3']
     repeat first|refine n1 ?_|refine n2 ?_|(refine nc ?_;simp (maxSteps := 1000000) [hF])
     refine VS.pick [7, 10, 11, 12, 14] [1, 3] (by simp [hF]) ?_;simp [hF]
     exact key ()
    ·have hz' : ((sendE h w to x).2.2 = 0) = False := by simp [hz]
     repeat first|refine n1 ?_|refine n2 ?_|((first|refine rg 15 [7, 10, 11, 12, 14, 16, 17] [7, 10, 11, 12, 14, 16, 92] [] ?_|refine nc ?_);simp (maxSteps := 1000000) [hF, hz'])
     refine VS.pick [7, 10, 11, 12, 14] [1, 3] (by simp [hF]) ?_;simp [hF]
     exact key ()
   rw [← sa1] at hgl hgi hg0 ⊢
   have hg1 := hg0
   rw [sa1] at hg1
   generalize (sendE h w to x).1 = h1 at *
   have hok1 := hf1.good.ok
   have hf2 := f_move hf1 w to x
   have hn2 : Hok (norm (moveE h1 w to x).1) := norm_hok.2 hf2.good.ok
   repeat first|(refine rg 20 [7, 10, 11, 12, 14] [7, 10, 11, 12, 14, 135] [] ?_;simp (maxSteps := 1000000) [hF])
   refine (move_ok (norm h1) hnx w to x).go [(0, [])] (by simp (maxSteps := 1000000) [hF, t_move hok1, nrm, dH]) ?_;rintro av X κ ⟨rfl, rfl, rfl⟩;simp (maxSteps := 1000000) [hF, t_move hok1, nrm, dH]
   by_cases hm : (moveE h1 w to x).2 = 0
   ·have hm' : ((moveE h1 w to x).2 = 0) = True := by simp [hm]
    obtain ⟨m1, m2⟩ := move_graph hf1 hm sa3 sa2
    repeat first|refine n1 ?_|((first|refine rg 21 [7, 10, 11, 12, 14] [7, 10, 11, 12, 14, 22, 23] [] ?_|refine nc ?_);simp (maxSteps := 1000000) [hF, hm'])
    refine (graph_c (norm (moveE h1 w to x).1) hn2 to x).go [(0, [])] (by simp (maxSteps := 1000000) [hF, t_graph, m1, hg0, dH]) ?_;rintro av X κ ⟨rfl, rfl, rfl⟩;simp (maxSteps := 1000000) [hF, t_graph, m1, hg0, dH]
    repeat first|refine n1 ?_|(refine rg 22 [7, 10, 11, 12, 14, 22, 23] [11, 12, 14, 22, 23, 25] [] ?_;simp (maxSteps := 1000000) [hF])
    refine (graph_c (norm (moveE h1 w to x).1) hn2 w x).go [(0, [])] (by simp (maxSteps := 1000000) [hF, t_graph, dH]) ?_;rintro av X κ ⟨rfl, rfl, rfl⟩;simp (maxSteps := 1000000) [hF, t_graph, dH]
    repeat first|refine n1 ?_|(refine rg 23 [11, 12, 14, 22, 23, 25] [166] [(2, 152), (8, 158), (12, 162)] ?_;simp (maxSteps := 1000000) [hF])
    by_cases hwt : w = (to : Int)
    ·have hwt' : (w = (to : Int)) = True := by simp [hwt]
     refine (same_r (graphOf h1 w x).1 hgl hgi).go [(1, []), (2, [])] (by simp (maxSteps := 1000000) [hF, dH, hwt']) ?_;rintro av X κ ⟨rfl, rfl, rfl⟩;simp (maxSteps := 1000000) [hF, dH, hwt']
     repeat first|refine n1 ?_|refine n2 ?_|((first|refine rg 25 [] [6] [] ?_|refine nc ?_);simp (maxSteps := 1000000) [hF, hwt'])
     refine (sane_ok).go [] (by simp (maxSteps := 1000000) [hF, dH]) ?_;rintro av X κ ⟨rfl, rfl, rfl⟩;simp (maxSteps := 1000000) [hF, dH]
     (try refine nr ?_);(repeat first|refine nb_ ?_|refine nl_ ?_);refine endK.o [6] [] [] ?_;simp [hF, retK, covers, mpre]
    ·have hwt' : (w = (to : Int)) = False := by simp [hwt]
     have m3 := m2 hwt
     refine (same_r (graphOf h1 w x).1 hgl hgi).go [(1, []), (2, [])] (by simp (maxSteps := 1000000) [hF, dH, hwt', m3]) ?_;rintro av X κ ⟨rfl, rfl, rfl⟩;simp (maxSteps := 1000000) [hF, dH, hwt', m3]
     repeat first|refine n1 ?_|refine n2 ?_|((first|refine rg 25 [] [6] [] ?_|refine nc ?_);simp (maxSteps := 1000000) [hF, hwt', m3])
     refine (sane_ok).go [] (by simp (maxSteps := 1000000) [hF, dH]) ?_;rintro av X κ ⟨rfl, rfl, rfl⟩;simp (maxSteps := 1000000) [hF, dH]
     (try refine nr ?_);(repeat first|refine nb_ ?_|refine nl_ ?_);refine endK.o [6] [] [] ?_;simp [hF, retK, covers, mpre]
   ·have hm' : ((moveE h1 w to x).2 = 0) = False := by simp [hm]
    repeat first|refine n1 ?_|refine n2 ?_|((first|refine rg 25 [] [6] [] ?_|refine nc ?_);simp (maxSteps := 1000000) [hF, hm'])
    refine (sane_ok).go [] (by simp (maxSteps := 1000000) [hF, dH]) ?_;rintro av X κ ⟨rfl, rfl, rfl⟩;simp (maxSteps := 1000000) [hF, dH]
    (try refine nr ?_);(repeat first|refine nb_ ?_|refine nl_ ?_);refine endK.o [6] [] [] ?_;simp [hF, retK, covers, mpre]
def dGs (l : List (List Cl)) : D := sq (l.map fun G => .sl true () 5 (dCls G))
@[simp] theorem dGs_len (l : List (List Cl)) : (dGs l).len = l.length := by simp [dGs]
theorem dGs_nth {l : List (List Cl)} {i : Nat} (h : i < l.length) : (dGs l).nth i = .sl true () 5 (dCls l[i]) := by rw [dGs, sq_nth_lt (by simpa using h)]; simp
theorem dGs_app1 (l : List (List Cl)) (G : List Cl) : (dGs l).app (.cons (.sl true () 5 (dCls G)) .nil) = dGs (l ++ [G]) := by
 have := sq_app (l.map fun G => (T.sl true () 5 (dCls G) : D)) [.sl true () 5 (dCls G)]
 simpa [dGs, sq] using this
theorem graph_err {n : Nat} {h : Hs} {w y : Int} (hw : 0 ≤ w ∧ w < h.rooms.length) (hy : 0 ≤ y ∧ y < h.things.length) (ho : (gd h.things y).owner = -1) (hz : ¬ (graphOf h w y).2 = 0) : overB h w = true := by
 cases hb : overB h w with
 | true => rfl
 | false => exact absurd (by rw [graph_of (ask_ok1 hw hy hb (.inr ho))]) hz
theorem shared_ok (nn : Int) (L M : List Ld) (ex ex2 : Bool) : Meets Try.prog 4 [] (.cons (avInt nn) (.cons (.imm 6 (dLds L) ex) (.cons (.imm 6 (dLds M) ex2) .nil))) fun av X κ => av = .val (.bool true) := by
 refine fb Try.func4 Try.ntmps4 [.tmp 6] fun w0 I0 F0 hF => ?_
 repeat first|refine n1 ?_|((first|refine rg 0 [0, 1, 2] [0, 1, 2] [] ?_|refine rg 1 [0, 1, 2] [2, 7, 8, 9] [] ?_);simp (maxSteps := 1000000) [hF])
 refine (played_ok nn L ex).go [] (by simp (maxSteps := 1000000) [hF]) ?_;rintro av X κ ⟨n, h, fl, h1, h2, hf, rfl, rfl, rfl⟩;simp (maxSteps := 1000000) [hF]
 have hok := hf.good.ok
 have hrl := hf.rooms
 have htl := hok.things
 have hkn := norm_hok.2 hok
 have hg : eH h fl = .box true () (.agg (.cons (.val (.bool true)) (.cons (.sl true () 2 (eRmsF fl h.rooms)) (.cons (.sl true () 5 (eTgs true h.things)) .nil)))) := rfl
 have hwr : IntKind.i64.wrap ((h.rooms.length : Int) - 1) = (h.rooms.length : Int) - 1 := IntWalk.i64_in _ (by omega)
 repeat first|refine n1 ?_|refine n2 ?_|refine n3 ?_|((first|refine rg 2 [2, 7, 8, 9] [2, 7, 8, 33] [] ?_|refine rg 4 [2, 7, 8] [2, 7, 8, 10] [] ?_|refine rg 5 [2, 7, 8, 10] [2, 7, 8, 10, 11] [] ?_|refine rg 6 [2, 7, 8, 10, 11] [2, 7, 8, 10, 11, 12] [] ?_|refine rg 7 [2, 7, 8, 10, 11, 12] [2, 7, 8, 10, 11, 12, 13] [] ?_|refine nc ?_);simp (maxSteps := 1000000) [hF, hg, hwr])
 refine VS.rounds (fun m st => ∃ (i : Nat) (wv : Int), i = m ∧ i ≤ h.rooms.length ∧ (wv = -1 ∨ (0 ≤ wv ∧ wv < h.rooms.length ∧ overB h wv = false)) ∧ st = ⟨[(2, .imm 6 (dLds M) ex2), (7, .ptr 0 [.d]), (8, .ptr 1 [.d]), (10, .nils 1), (11, .nils 1), (12, avInt wv), (13, avInt ((i : Int) - 1))], [dH (norm h), eH h fl], [], []⟩) ⟨h.rooms.length, h.rooms.length, -1, rfl, Nat.le_refl _, .inl rfl, by simp [hg, dH, norm]⟩ ?_
 rintro m st ⟨i, wv, rfl, hi, hwv, rfl⟩
 repeat first|refine n1 ?_|((first|refine rg 8 [2, 7, 8, 10, 11, 12, 13] [2, 7, 8, 10, 11, 12, 13, 41] [] ?_|refine nc ?_);simp (maxSteps := 1000000) [hF])
 refine ⟨fun hlt => ?_, fun hge => ?_⟩
 ·obtain ⟨k, rfl⟩ : ∃ k, i = k + 1 := ⟨i - 1, by omega⟩
  have hk : k < h.rooms.length := by omega
  have e1 : ((k + 1 : Nat) : Int) - 1 = (k : Int) := by omega
  have hn1 := eRmsF_nth (fl := fl) hk
  have hwk : IntKind.i64.wrap ((k : Int) - 1) = (k : Int) - 1 := IntWalk.i64_in _ (by omega)
  repeat first|refine n1 ?_|refine n2 ?_|refine n3 ?_|((first|refine rg 10 [2, 7, 8, 10, 11, 12, 13] [2, 7, 8, 10, 11, 12, 13, 52] [] ?_|refine nc ?_);simp (maxSteps := 1000000) [hF, e1, hg, hn1, hk])
  have hok2 : overB h (k : Int) = h.rooms[k].over := by rw [overB_gr, gr_at hk]
  refine ⟨fun ho => ?_, fun ho => ?_⟩
  ·repeat first|refine n4 ?_|refine n5 ?_|refine n6 ?_|((first|refine rg 9 [2, 7, 8, 10, 11, 12, 13] [2, 7, 8, 10, 11, 12, 13] [] ?_|refine rg 11 [2, 7, 8, 10, 11, 13] [2, 7, 8, 10, 11, 12, 13] [] ?_);simp (maxSteps := 1000000) [hF, hwk])
   refine nextK.of [2, 7, 8, 10, 11, 12, 13] [0, 1] (k) (by omega) (by simp [hF]) ?_
   exact ⟨k, k, rfl, by omega, .inr ⟨by omega, by omega, by rw [hok2]; simpa using ho⟩, by simp [hg, dH, norm]⟩
  ·repeat first|refine n2 ?_|refine n4 ?_|refine n5 ?_|refine n6 ?_|(refine rg 9 [2, 7, 8, 10, 11, 12, 13] [2, 7, 8, 10, 11, 12, 13] [] ?_;simp (maxSteps := 1000000) [hF, hwk])
   refine nextK.of [2, 7, 8, 10, 11, 12, 13] [0, 1] (k) (by omega) (by simp [hF]) ?_
   exact ⟨k, wv, rfl, by omega, hwv, by simp [hg, dH, norm]⟩
 ·repeat first|refine n1 ?_|refine n7 ?_|((first|refine rg 12 [2, 7, 8, 10, 11, 12] [2, 7, 8, 10, 11, 12, 55] [] ?_|refine nc ?_);simp (maxSteps := 1000000) [hF])
  refine ⟨fun hneg => ?_, fun hpos => ?_⟩
  ·repeat first|refine n1 ?_|(refine rg 13 [] [6] [] ?_;simp (maxSteps := 1000000) [hF])
   refine (sane_ok).go [] (by simp (maxSteps := 1000000) [hF, dH]) ?_;rintro av X κ ⟨rfl, rfl, rfl⟩;simp (maxSteps := 1000000) [hF, dH]
   (try refine nr ?_);(repeat first|refine nb_ ?_|refine nl_ ?_);refine endK.o [6] [] [] ?_;simp [hF, retK, covers, mpre]
  ·obtain ⟨w, rfl⟩ : ∃ w : Nat, wv = w := ⟨wv.toNat, by omega⟩
   obtain ⟨hw0, hwl, hov⟩ : 0 ≤ (w : Int) ∧ (w : Int) < h.rooms.length ∧ overB h w = false := by
    rcases hwv with e | e
    ·omega
    ·exact e
   have hwl' : w < h.rooms.length := by omega
   repeat first|refine n1 ?_|refine n2 ?_|refine n3 ?_|(refine rg 14 [2, 7, 8, 10, 11, 12] [2, 7, 8, 10, 11, 12, 14] [] ?_;simp (maxSteps := 1000000) [hF])
   refine VS.hold0 10 1 (by simp) ?_
   generalize hK : VS _ _ _ = KK; simp; (try subst hK)
   refine VS.hold0 11 1 (by simp) ?_
   generalize hK : VS _ _ _ = KK; simp; (try subst hK)
   refine VS.pick [2, 7, 8, 10, 11, 12, 14] [0, 1, 2, 3] (by simp [hF]) ?_;simp [hF]
   refine VS.rounds (fun m st => ∃ (x : Nat) (Ts : List Int), x + m = h.things.length ∧ Ts.length ≤ x ∧ (∀ y ∈ Ts, (0 ≤ y ∧ y < (h.things.length : Int)) ∧ (gd h.things y).owner = -1) ∧ st = ⟨[(2, .imm 6 (dLds M) ex2), (7, .ptr 0 [.d]), (8, .ptr 1 [.d]), (10, .sub 2 [] 0 Ts.length false), (11, .sub 3 [] 0 Ts.length false), (12, avInt w), (14, avInt x)],
    [dH (norm h), eH h fl, .sl true () 1 (dInts Ts), .sl true () 1 (dGs (Ts.map fun y => (graphOf h w y).1))], [], []⟩) ⟨h.things.length, 0, [], by omega, by simp, by simp, by simp [hg, dH, norm, dInts, dGs, sq]⟩ ?_
   rintro m st ⟨x, Ts, hx, hTx, hTs, rfl⟩
   have hwx : IntKind.i64.wrap ((x : Int) + 1) = (x + 1 : Nat) := by rw [IntWalk.i64_in _ (by omega)]; rfl
   repeat first|refine n1 ?_|(refine rg 15 [2, 7, 8, 10, 11, 12, 14] [2, 7, 8, 10, 11, 12, 14, 60] [] ?_;simp (maxSteps := 1000000) [hF])
   refine (elen_c h fl).go [(1, [])] (by simp (maxSteps := 1000000) [hF, eH]) ?_;rintro av X κ ⟨rfl, rfl, rfl⟩;simp (maxSteps := 1000000) [hF, eH]
   repeat first|(refine nc ?_;simp (maxSteps := 1000000) [hF])
   refine ⟨fun hlt => ?_, fun hge => ?_⟩
   ·have hxl : x < h.things.length := by omega
    have hxv : 0 ≤ (x : Int) ∧ (x : Int) < h.things.length := by omega
    have hO := owner_of hxv
    obtain ⟨o, ho⟩ : ∃ o, o = (gd h.things (x : Int)).owner := ⟨_, rfl⟩
    rw [← ho] at hO
    repeat first|refine n1 ?_|refine n2 ?_|refine n3 ?_|(refine rg 17 [2, 7, 8, 10, 11, 12, 14] [2, 7, 8, 10, 11, 12, 14, 15] [] ?_;simp (maxSteps := 1000000) [hF])
    refine (owner_c (norm h) x).go [(0, [])] (by simp (maxSteps := 1000000) [hF, t_owner, hO, dH]) ?_;rintro av X κ ⟨rfl, rfl, rfl⟩;simp (maxSteps := 1000000) [hF, t_owner, hO, dH]
    repeat first|refine n1 ?_|((first|refine rg 18 [2, 7, 8, 10, 11, 12, 14, 15] [2, 7, 8, 10, 11, 12, 14, 70] [] ?_|refine nc ?_);simp (maxSteps := 1000000) [hF])
    refine ⟨fun ho1 => ?_, fun ho1 => ?_⟩
    ·have ha : askOf h w [(x : Int)] = 0 := ask_ok1 (by omega) hxv hov (.inr (by rw [← ho, ho1]))
     have hg0 : (graphOf h w x).2 = 0 := by rw [graph_of ha]
     repeat first|refine n1 ?_|(refine rg 19 [2, 7, 8, 10, 11, 12, 14] [2, 7, 8, 10, 11, 12, 14, 17, 18] [] ?_;simp (maxSteps := 1000000) [hF])
     refine (graph_c (norm h) hkn w x).go [(0, [])] (by simp (maxSteps := 1000000) [hF, t_graph, hg0, dH]) ?_;rintro av X κ ⟨rfl, rfl, rfl⟩;simp (maxSteps := 1000000) [hF, t_graph, hg0, dH]
     have hp := dInts_app1 Ts x
     have hm1 : (dInts (Ts ++ [(x : Int)])).mid 0 (Ts.length + 1) = dInts (Ts ++ [(x : Int)]) := sq_mid_all _ _ (by simp)
     have hm0 : (dInts Ts).mid 0 Ts.length = dInts Ts := by simp
     have c1 : (Ts.length + 1) * 8 ≤ 140737488355328 := by omega
     have c1' : (Ts.length + 1) * 24 ≤ 140737488355328 := by omega
     have c2 : Ts.length ≤ 9223372036854775806 := by omega
     have hp2 := dGs_app1 (Ts.map fun y => (graphOf h w y).1) (graphOf h w x).1
     have hm2 : (dGs ((Ts.map fun y => (graphOf h w y).1) ++ [(graphOf h w x).1])).mid 0 (Ts.length + 1) = dGs ((Ts.map fun y => (graphOf h w y).1) ++ [(graphOf h w x).1]) := sq_mid_all _ _ (by simp)
     have hm3 : (dGs (Ts.map fun y => (graphOf h w y).1)).mid 0 Ts.length = dGs (Ts.map fun y => (graphOf h w y).1) := sq_mid_all _ _ (by simp)
     have hmg : (dCls (graphOf h w x).1).mid 0 (graphOf h w x).1.length = dCls (graphOf h w x).1 := sq_mid_all _ _ (by simp)
     repeat first|refine n1 ?_|refine n2 ?_|refine n4 ?_|refine n5 ?_|refine n6 ?_|((first|refine rg 16 [2, 7, 8, 10, 11, 12, 14] [2, 7, 8, 10, 11, 12, 14] [] ?_|refine rg 20 [2, 7, 8, 10, 11, 12, 14, 17, 18] [2, 7, 8, 10, 11, 12, 14, 17, 79] [] ?_|refine rg 22 [2, 7, 8, 10, 11, 12, 14, 17] [2, 7, 8, 10, 11, 12, 14, 17] [] ?_|refine rg 23 [2, 7, 8, 10, 11, 12, 14, 17] [2, 7, 8, 10, 11, 12, 14] [] ?_|refine nc ?_);simp (maxSteps := 1000000) [hF, hp, hm1, hm0, c1, c1', c2, hmg, hp2, hm2, hm3, hwx])
     refine nextK.of [2, 7, 8, 10, 11, 12, 14] [0, 1, 2, 3] (m - 1) (by omega) (by simp [hF]) ?_
     refine ⟨x + 1, Ts ++ [(x : Int)], by omega, by simp; omega, ?_, by simp [hg, dH, norm]⟩
     intro y hy
     rcases List.mem_append.1 hy with h9 | h9
     ·exact hTs y h9
     ·rw [List.mem_singleton] at h9
      rw [h9]; exact ⟨hxv, by rw [← ho, ho1]⟩
    ·repeat first|refine n2 ?_|refine n4 ?_|refine n5 ?_|refine n6 ?_|(refine rg 16 [2, 7, 8, 10, 11, 12, 14] [2, 7, 8, 10, 11, 12, 14] [] ?_;simp (maxSteps := 1000000) [hF, hwx])
     refine nextK.of [2, 7, 8, 10, 11, 12, 14] [0, 1, 2, 3] (m - 1) (by omega) (by simp [hF]) ?_
     exact ⟨x + 1, Ts, by omega, by omega, hTs, by simp [hg, dH, norm]⟩
   ·repeat first|refine n1 ?_|refine n3 ?_|refine n7 ?_|(refine rg 24 [2, 7, 8, 10, 11, 12] [2, 7, 8, 10, 11, 12, 19] [] ?_;simp (maxSteps := 1000000) [hF])
    have hT400 : Ts.length ≤ 400 := by omega
    clear hx hTx hwx hge
    refine VS.rounds (fun m st => ∃ (i : Nat) (h' : Hs) (fl' : Nat → Bool), i + m = M.length ∧ Fine n h' ∧ Stay h h' ∧ st = ⟨[(2, .imm 6 (dLds M) ex2), (7, .ptr 0 [.d]), (8, .ptr 1 [.d]), (10, .sub 2 [] 0 Ts.length false), (11, .sub 3 [] 0 Ts.length false), (12, avInt w), (19, avInt i)],
     [dH (norm h'), eH h' fl', .sl true () 1 (dInts Ts), .sl true () 1 (dGs (Ts.map fun y => (graphOf h w y).1))], [], []⟩) ⟨M.length, 0, h, fl, by omega, hf, Stay.rfl, by simp [hg, dH, norm]⟩ ?_
    rintro m2 st ⟨i, h', fl', hi2, hf', hs, rfl⟩
    have hg' : eH h' fl' = .box true () (.agg (.cons (.val (.bool true)) (.cons (.sl true () 2 (eRmsF fl' h'.rooms)) (.cons (.sl true () 5 (eTgs true h'.things)) .nil)))) := rfl
    apply merged
    ·intro key
     repeat first|refine n1 ?_|(refine rg 25 [2, 7, 8, 10, 11, 12, 19] [2, 7, 8, 10, 11, 12, 19, 95] [(4, 92)] ?_;simp (maxSteps := 1000000) [hF])
     refine ⟨fun hlt => ?_, fun hge => ?_⟩
     ·repeat first|(refine nc ?_;simp (maxSteps := 1000000) [hF])
      refine ⟨fun h90 => ?_, fun h90 => ?_⟩
      ·have hn1 := dLds_nth hlt
       have hw1 : IntKind.i64.wrap ((i : Int) + 1) = (i + 1 : Nat) := by rw [IntWalk.i64_in _ (by omega)]; rfl
       repeat first|refine n1 ?_|refine n2 ?_|refine n3 ?_|(refine rg 27 [2, 7, 8, 10, 11, 12, 19] [2, 7, 8, 10, 11, 12, 19, 105] [] ?_;simp (maxSteps := 1000000) [hF, hn1, hlt])
       refine (does_ok hf' (by omega) fl' M[i]).go [(0, []), (1, [])] (by simp (maxSteps := 1000000) [hF, avLd, dH, eH]) ?_;rintro av X κ ⟨d', fl2, rfl, rfl, rfl⟩;simp (maxSteps := 1000000) [hF, avLd, dH, eH]
       repeat first|refine n2 ?_|refine n4 ?_|refine n5 ?_|refine n6 ?_|((first|refine rg 26 [2, 7, 8, 10, 11, 12, 19] [2, 7, 8, 10, 11, 12, 19] [] ?_|refine nc ?_);simp (maxSteps := 1000000) [hF, hw1])
       refine nextK.of [2, 7, 8, 10, 11, 12, 19] [0, 1, 2, 3] (m2 - 1) (by omega) (by simp [hF]) ?_
       exact ⟨i + 1, _, fl2, by omega, f_do hf' d', hs.trans (s_do hf' d'), by simp [dH, eH, norm]⟩
      ·repeat first|refine n1 ?_|refine n7 ?_
       refine VS.pick [7, 8, 10, 11, 12] [0, 1, 2, 3] (by simp [hF]) ?_;simp [hF]
       exact key ()
     ·repeat first|refine n1 ?_|refine n7 ?_|(refine nc ?_;simp (maxSteps := 1000000) [hF])
      refine VS.pick [7, 8, 10, 11, 12] [0, 1, 2, 3] (by simp [hF]) ?_;simp [hF]
      exact key ()
    have hok' := hf'.good.ok
    have hkn' := norm_hok.2 hok'
    repeat first|refine n3 ?_|(refine rg 29 [7, 8, 10, 11, 12] [7, 8, 10, 11, 12, 20] [] ?_;simp (maxSteps := 1000000) [hF])
    refine VS.rounds (fun m st => ∃ (i : Nat), i + m = Ts.length ∧ st = ⟨[(7, .ptr 0 [.d]), (8, .ptr 1 [.d]), (10, .sub 2 [] 0 Ts.length false), (11, .sub 3 [] 0 Ts.length false), (12, avInt w), (20, avInt i)],
     [dH (norm h'), eH h' fl', .sl true () 1 (dInts Ts), .sl true () 1 (dGs (Ts.map fun y => (graphOf h w y).1))], [], []⟩) ⟨Ts.length, 0, by omega, by simp [hg', dH, norm]⟩ ?_
    rintro m3 st ⟨k, hk3, rfl⟩
    repeat first|refine n1 ?_|((first|refine rg 30 [7, 8, 10, 11, 12, 20] [7, 8, 10, 11, 12, 20, 109] [] ?_|refine nc ?_);simp (maxSteps := 1000000) [hF])
    refine ⟨fun hlt => ?_, fun hge => ?_⟩
    ·have hkl : k < Ts.length := by omega
     have hn1 := dInts_nth hkl
     obtain ⟨y, hy⟩ : ∃ y, y = Ts[k] := ⟨_, rfl⟩
     rw [← hy] at hn1
     obtain ⟨hyv, hyo⟩ := hTs y (by rw [hy]; exact List.getElem_mem hkl)
     have hmore := hs.more
     have hyv' : 0 ≤ y ∧ y < h'.things.length := by omega
     obtain ⟨hyo', _⟩ := hs.same y hyv hyo
     have hO := owner_of hyv'
     rw [hyo'] at hO
     have hwk : IntKind.i64.wrap ((k : Int) + 1) = (k + 1 : Nat) := by rw [IntWalk.i64_in _ (by omega)]; rfl
     have hn2 : (dGs (Ts.map fun y => (graphOf h w y).1)).nth k = .sl true () 5 (dCls (graphOf h w y).1) := by
      rw [dGs_nth (by simpa using hkl), List.getElem_map, ← hy]
     have hrl' := hs.rooms
     have hwl2 : w < h'.rooms.length := by omega
     have hnr := eRmsF_nth (fl := fl') hwl2
     repeat first|refine n1 ?_|refine n2 ?_|refine n3 ?_|(refine rg 32 [7, 8, 10, 11, 12, 20] [7, 8, 10, 11, 12, 20, 21, 22] [] ?_;simp (maxSteps := 1000000) [hF, hn1, hkl])
     refine (owner_c (norm h') y).go [(0, [])] (by simp (maxSteps := 1000000) [hF, t_owner, hO, dH, hn1, hkl]) ?_;rintro av X κ ⟨rfl, rfl, rfl⟩;simp (maxSteps := 1000000) [hF, t_owner, hO, dH, hn1, hkl]
     repeat first|refine n1 ?_|(refine rg 33 [7, 8, 10, 11, 12, 20, 21, 22] [7, 8, 10, 11, 12, 20, 21, 22, 23, 24] [] ?_;simp (maxSteps := 1000000) [hF, hn1, hkl])
     refine (graph_c (norm h') hkn' w y).go [(0, [])] (by simp (maxSteps := 1000000) [hF, t_graph, dH, hn1, hkl]) ?_;rintro av X κ ⟨rfl, rfl, rfl⟩;simp (maxSteps := 1000000) [hF, t_graph, dH, hn1, hkl]
     by_cases hz : (graphOf h' w y).2 = 0
     ·have hz' : ((graphOf h' w y).2 = 0) = True := by simp [hz]
      have hG : (graphOf h' w y).1 = (graphOf h w y).1 := by
       rw [graph_of (graph_ask hz), graph_of (ask_ok1 (by omega) hyv hov (.inr hyo))]
       exact stay_graph hf hs hyv hyo
      rw [hG]
      obtain ⟨hgl, hgi⟩ := graph_rows hf w y
      have hsame := setN_of hn2
      repeat first|refine n1 ?_|(refine rg 34 [7, 8, 10, 11, 12, 20, 21, 22, 23, 24] [7, 8, 10, 11, 12, 20, 164] [(2, 133), (6, 137), (9, 140), (19, 150), (22, 153)] ?_;simp (maxSteps := 1000000) [hF, hz', hn2, hkl])
      refine (same_r (graphOf h w y).1 hgl hgi).go [(4, []), (3, [.i k])] (by simp (maxSteps := 1000000) [hF, dH, hn2, hkl, hsame, hz']) ?_;rintro av X κ ⟨rfl, rfl, rfl⟩;simp (maxSteps := 1000000) [hF, dH, hn2, hkl, hsame, hz']
      repeat first|refine n2 ?_|refine n4 ?_|refine n5 ?_|refine n6 ?_|((first|refine rg 31 [7, 8, 10, 11, 12, 20] [7, 8, 10, 11, 12, 20] [] ?_|refine nc ?_);simp (maxSteps := 1000000) [hF, hz', hwk])
      refine nextK.of [7, 8, 10, 11, 12, 20] [0, 1, 2, 3] (m3 - 1) (by omega) (by simp [hF]) ?_
      exact ⟨k + 1, by omega, by simp [hg', dH, norm]⟩
     ·have hz' : ((graphOf h' w y).2 = 0) = False := by simp [hz]
      have hov' : h'.rooms[w].over = true := by
       have := graph_err (n := n) (h := h') (w := (w : Int)) (y := y) ⟨by omega, by omega⟩ hyv' hyo' hz
       rw [overB_gr, gr_at hwl2] at this; exact this
      rw [hov'] at hnr
      repeat first|refine n1 ?_|refine n2 ?_|refine n4 ?_|refine n5 ?_|refine n6 ?_|((first|refine rg 31 [7, 8, 10, 11, 12, 20] [7, 8, 10, 11, 12, 20] [] ?_|refine rg 34 [7, 8, 10, 11, 12, 20, 21, 22, 23, 24] [7, 8, 10, 11, 12, 20, 164] [(2, 133), (6, 137), (9, 140), (19, 150), (22, 153)] ?_|refine nc ?_);simp (maxSteps := 1000000) [hF, hz', hg', hnr, hwl2, hwk])
      refine nextK.of [7, 8, 10, 11, 12, 20] [0, 1, 2, 3] (m3 - 1) (by omega) (by simp [hF]) ?_
      exact ⟨k + 1, by omega, by simp [hg', dH, norm]⟩
    ·repeat first|refine n1 ?_|refine n7 ?_|(refine rg 36 [] [6] [] ?_;simp (maxSteps := 1000000) [hF])
     refine (sane_ok).go [] (by simp (maxSteps := 1000000) [hF, dH]) ?_;rintro av X κ ⟨rfl, rfl, rfl⟩;simp (maxSteps := 1000000) [hF, dH]
     (try refine nr ?_);(repeat first|refine nb_ ?_|refine nl_ ?_);refine endK.o [6] [] [] ?_;simp [hF, retK, covers, mpre]
end Go.Proofs.Ytkkbcpcihadkhaa

/- Proved: IsolateShared returns true for every input, and its arguments read behind the call as before. No condition. -/
namespace Go.Proofs.Ytkkbcpcihadkhaa.isolateShared
set_option linter.all false
open Go.Vc Go.ChangeShapes Go.WideShapes Go.ChangeAt Go.RowKit
set_option linter.unusedVariables false
theorem own : ownKnob Try.prog.godebug = none := by kernel_rfl
theorem laid : laidOutB Try.prog = true := by kernel_rfl
set_option maxRecDepth 100000 in
theorem lifted (os : Os) (started : os.Started) (H : Type) (enc : TypeId × Value → H) :
    ReturnsInHanded {} Try.checked os 4 .any (Rows.isolateSharedSpec.pre6 enc Try.prog Try.f4 Rows.isolateSharedRow.domain false) (Rows.isolateSharedSpec.post enc Try.prog Try.f4 false true false false) := by
  refine returnsInHanded_of_change (C := Try.checked) own started (by kernel_rfl) Try.func4
    (ChangeSpec.witness6 (enc := enc) (C := Try.checked) false ⟨#[], #[.int .i64 0, .slice none 0 0, .slice none 0 0], []⟩ 8 (by kernel_rfl) (by kernel_rfl) (by kernel_rfl) (by kernel_rfl)) ?_
  intro W base args ds gs before hval0 hW hcnd _
  have hval : ∀ (j : Nat) t v, Try.f4.params[j]? = some t → args[j]? = some v → Value.okWide Try.prog W .any base t v := hval0
  have hW' := hW
  obtain ⟨p, q, hA0, hV, rfl, hfz, hnd⟩ := hW
  have hA : DataW.TrodAll enc Try.prog W 0 (fun _ => true) true Try.f4.params.toList args.toList ds p := hA0
  rw [Try.params4] at hA hval
  obtain ⟨v0, vs0, d0, ds0, p0, q0, hargs0, rfl, rfl, h0, r0⟩ := trodAll_cons hA
  obtain ⟨v1, vs1, d1, ds1, p1, q1, hargs1, rfl, rfl, h1, r1⟩ := trodAll_cons r0
  obtain ⟨v2, vs2, d2, ds2, p2, q2, hargs2, rfl, rfl, h2, r2⟩ := trodAll_cons r1
  obtain ⟨rfl, rfl, rfl⟩ := trodAll_nil r2
  subst hargs2
  subst hargs1
  obtain rfl : args = #[v0, v1, v2] := by cases args; simp_all
  obtain ⟨rfl, rfl⟩ := trodVars_none hV
  obtain ⟨a0, hr0⟩ := int_of (hval 0 3 v0 rfl rfl) h0
  obtain ⟨a1, hlen1, hr1⟩ := deeds_of (hval 1 22 v1 rfl rfl) h1
  obtain ⟨a2, hlen2, hr2⟩ := deeds_of (hval 2 22 v2 rfl rfl) h2
  clear hA0 hval0
  have hwalk : Calls Try.prog 4 #[v0, v1, v2] W fun e w' => e = .returned (.bool true) ∧ Below W.heap.size W w' :=
    Meets.law (shared_ok a0 a1 a2 false false) (vs := [v0, v1, v2]) (I := allB W) (fun _ h => h) ⟨v0, _, rfl, hr0, ⟨v1, _, rfl, hr1, ⟨v2, _, rfl, hr2, rfl⟩⟩⟩
  refine hwalk.mono fun e W' ⟨he, bel⟩ => ?_
  subst he
  exact ⟨_, rfl, _, _, _, [], _, [], hW', trodAll_mk1 (shut_bool Try.underlying4 _), (trodAll_cons_mk (Below.trod laid (by kernel_rfl) (of_decide_eq_true (by kernel_rfl)) h0 bel fun x hx => hW'.lt x (by simp [hx])) (trodAll_cons_mk (Below.trod laid (by kernel_rfl) (of_decide_eq_true (by kernel_rfl)) h1 bel fun x hx => hW'.lt x (by simp [hx])) (trodAll_cons_mk (Below.trod laid (by kernel_rfl) (of_decide_eq_true (by kernel_rfl)) h2 bel fun x hx => hW'.lt x (by simp [hx])) trodAll_mk0))), rfl, bel.frame _, fun h => by cases h⟩
theorem over : Rows.isolateSharedRow.holds Try.pinned (OpenSpec.ofChange Rows.isolateSharedSpec) :=
  OpenClaim.holds_of_wide 4 Try.f4 rfl rfl rfl rfl rfl rfl rfl ⟨rfl, rfl, rfl, rfl, rfl⟩ rfl rfl rfl rfl rfl (by kernel_rfl) Try.func4 (by kernel_rfl)
    (of_decide_eq_true (by kernel_rfl)) (by unfold Func.isWrapper; first | (rw [if_pos (by decide +kernel)]; kernel_rfl) | (rw [if_neg (by decide +kernel)]; exact ⟨rfl, rfl⟩))
    (fun os started H enc _ => lifted os started H enc)
theorem proved : Rows.IsolateSharedSaid :=
  over
end Go.Proofs.Ytkkbcpcihadkhaa.isolateShared
