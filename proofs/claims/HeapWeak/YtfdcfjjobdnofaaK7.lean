/- What a collection keeps. -/
import Derived.Test.YtfdcfjjobdnofaaK6
namespace Go.Proofs.Ytfdcfjjobdnofaa
set_option linter.all false
open Go.Vc Go.Proofs
set_option linter.unusedSimpArgs false
set_option linter.unusedVariables false
set_option maxRecDepth 100000
set_option maxHeartbeats 4000000
attribute [local irreducible] CallW EqK

theorem clone_p (ex : Bool) (l F : List Int) (hF : F = l) (hl : l.length ≤ 100000000) : Meets Try.prog 49 [.sl true () 1 (dInts l)] (.cons (.sub 0 [] 0 l.length ex) .nil)
  fun av X κ => av = .sub 1 [] 0 F.length false ∧ X = [.sl true () 1 (dInts l), .sl true () 1 (dInts F)] ∧ κ = [] := by
 subst hF; exact clone_c ex F hl
/-- What the program starts from. -/
def fromQ (h : Hp) (minor : Bool) : List Int := if minor = true then fromP h else h.roots
theorem fromQ_mem {h : Hp} (k : Ok h) (minor : Bool) (z : Int) : z ∈ fromQ h minor ↔ z ∈ fromOf h minor := by
 cases minor with
 | true => rw [fromQ, if_pos rfl]; exact fromP_mem k z
 | false => simp [fromQ, fromOf]
theorem fromQ_len {h : Hp} (k : Ok h) (minor : Bool) : (fromQ h minor).length ≤ 100000 := by
 obtain ⟨b1, b2, b3, b4⟩ := k.lens
 have hr := k.roots.1
 rw [fromQ]
 split
 ·have := flat8 k (remembOf h)
  have h2 : (remembOf h).length ≤ 1000 := by
   rw [remembOf, List.length_mergeSort, List.length_map]
   exact Nat.le_trans (List.length_filter_le _ _) b2
  rw [fromP, List.length_append]; omega
 ·omega

/-- What is behind 'live'. -/
def liveHp (h : Hp) (minor : Bool) (fst : Int → Bool) : Hp := { h with fins := h.fins.filter fun f => !deadB h minor fst f, queue := h.queue ++ (h.fins.filter (deadB h minor fst)).map (·.2) }
/- (*cabochon/heap.Heap).live -/
theorem plive_ok (h : Hp) (k : Ok h) (minor : Bool) (hfl : h.fins.length ≤ 1000000) (hql : h.queue.length ≤ 1000000) : Meets Try.prog 73 [dHp h] (.cons (.ptr 0 [.d]) (.cons (avBool minor) .nil))
  fun av X κ => ∃ (S1 S2 : List Int), Lv h minor (fun x => decide (x ∈ S1)) (fun x => decide (x ∈ S2)) ∧ av = .mp 1 [] ∧ X = [dHp (liveHp h minor fun x => decide (x ∈ S1)), dSn S2] ∧ κ = [(0, [.d])] := by
 obtain ⟨b1, b2, b3, b4⟩ := k.lens
 have hrl := k.roots.1
 have hql' := fromQ_len k minor
 have hsn : dSn [] = .map true () .nil := rfl
 obtain ⟨F, hFF⟩ : ∃ F, F = h.roots := ⟨_, rfl⟩
 refine fb Try.func73 Try.ntmps73 [.tmp 4] fun w0 I0 F0 hF => ?_
 repeat first|refine n1 ?_|((first|refine rg 0 [0, 1] [2, 3] [] ?_|refine rg 1 [2, 3] [2, 3, 5] [] ?_);simp (maxSteps := 1000000) [hF, dHp, dHb])
 refine (clone_p false h.roots F hFF (by omega)).go [(0, [.d, .f 3])] (by simp (maxSteps := 1000000) [hF, dHp, dHb]) ?_;rintro av X κ ⟨rfl, rfl, rfl⟩;simp (maxSteps := 1000000) [hF, dHp, dHb]
 repeat first|refine n1 ?_|((first|refine rg 2 [2, 3, 5] [2, 3, 5, 22] [] ?_|refine nc ?_);simp (maxSteps := 1000000) [hF])
 apply merged
 ·intro key
  refine ⟨fun hm => ?_, fun hm => ?_⟩
  ·have hq : fromP h = fromQ h minor := by rw [fromQ, if_pos hm]
   repeat first|refine n1 ?_|(refine rg 3 [2, 3, 5] [2, 3, 5, 24, 25, 26] [] ?_;simp (maxSteps := 1000000) [hF])
   refine (remembered_c h k).go [(0, [])] (by simp (maxSteps := 1000000) [hF, dHp, dHb]) ?_;rintro av X κ ⟨rfl, rfl, rfl⟩;simp (maxSteps := 1000000) [hF, dHp, dHb]
   repeat first|refine n3 ?_
   have hLo : ∀ x ∈ remembOf h, inL h.young x = false ∧ inL h.old x = true := fun x hx => remembOf_old k hx
   have hLl : (remembOf h).length ≤ 1000 := by
    rw [remembOf, List.length_mergeSort, List.length_map]
    exact Nat.le_trans (List.length_filter_le _ _) b2
   have hPd : fromP h = h.roots ++ (remembOf h).flatMap (slotsOf h) := rfl
   generalize hL : remembOf h = L at *
   refine VS.rounds (fun m st => ∃ (i : Nat) (acc : List Int), i + m = L.length ∧ acc = h.roots ++ (L.take i).flatMap (slotsOf h) ∧ st = ⟨[(2, .ptr 1 [.d]), (3, .ptr 2 [.d]), (5, .sub 3 [] 0 acc.length false), (24, .sub 4 [] 0 L.length false), (25, avInt L.length), (26, avInt i)],
    [dHp h, dJB, dBB minor, .sl true () 1 (dInts acc), .sl true () 1 (dInts L)], [], [(1, [.d], .ptr 0 [.d])]⟩) ⟨L.length, 0, F, by omega, by simp [hFF], by simp [dHp, dHb, dJB, dBB]⟩ ?_
   rintro m st ⟨i, acc, hi, hacc, rfl⟩
   repeat first|refine n1 ?_|((first|refine rg 4 [2, 3, 5, 24, 25, 26] [2, 3, 5, 24, 25, 26, 27] [] ?_|refine nc ?_);simp (maxSteps := 1000000) [hF])
   refine ⟨fun hlt => ?_, fun hge => ?_⟩
   ·have hn1 := dInts_nth hlt
    obtain ⟨hy, ho⟩ := hLo _ (List.getElem_mem hlt)
    have hst : h.roots ++ (L.take (i + 1)).flatMap (slotsOf h) = acc ++ slotsOf h L[i] := by
     rw [take_succ_at hlt, List.flatMap_append, ← List.append_assoc, ← hacc]; simp
    have hal : acc.length ≤ 50 + 8 * 1000 := by
     rw [hacc, List.length_append]
     have := flat8 k (L.take i)
     rw [List.length_take] at this
     omega
    generalize L[i] = x at *
    obtain ⟨j, hj, hix, hh, hsl, _⟩ := inL_at ho
    have hf : fdOf h x = (1, (j : Int), true) := by simp [fdOf, hy, ho, hix]
    have hso : slotsOf h x = h.old[j].slots := by rw [slotsOf_o hy, hsl]
    rw [hso] at hst
    have h8 := slots8 k x
    rw [hso] at h8
    have hn2 := dObs_nth (o := true) hj
    have c1 : (acc.length + h.old[j].slots.length) * 8 ≤ 140737488355328 := by omega
    have c2 : acc.length + h.old[j].slots.length ≤ 9223372036854775807 := by omega
    have hw : IntKind.i64.wrap ((i : Int) + 1) = (i + 1 : Nat) := by rw [IntWalk.i64_in _ (by omega)]; rfl
    have hm1 : (dInts (acc ++ h.old[j].slots)).mid 0 (acc.length + h.old[j].slots.length) = dInts (acc ++ h.old[j].slots) := sq_mid_all _ _ (by simp)
    repeat first|refine n1 ?_|refine n2 ?_|refine n3 ?_|((first|refine rg 5 [2, 3, 5, 24, 25, 26] [2, 3, 5, 7, 24, 25, 26] [] ?_|refine rg 6 [2, 3, 5, 7, 24, 25, 26] [2, 3, 5, 8, 9, 24, 25, 26] [] ?_);simp (maxSteps := 1000000) [hF, hn1, hlt, dJB, dHp])
    refine (find_c h k x).go [(0, [])] (by simp (maxSteps := 1000000) [hF, hf, dHp, dJB]) ?_;rintro av X κ ⟨rfl, rfl, rfl⟩;simp (maxSteps := 1000000) [hF, hf, dHp, dJB]
    repeat first|refine n4 ?_|refine n5 ?_|refine n6 ?_|((first|refine rg 7 [2, 3, 5, 8, 9, 24, 25, 26] [2, 3, 5, 24, 25, 26] [] ?_|refine rg 8 [2, 3, 5, 24, 25, 26] [2, 3, 5, 24, 25, 26] [] ?_);simp (maxSteps := 1000000) [hF, dHb, hn2, hj, c1, c2, hm1, hw])
    refine nextK.of [2, 3, 5, 24, 25, 26] [0, 1, 2, 3, 4] (m - 1) (by omega) (by simp [hF]) ?_
    refine ⟨i + 1, acc ++ h.old[j].slots, by omega, hst.symm, ?_⟩
    simp [dHp, dHb, dJB, dBB]
   ·have hf : acc = fromQ h minor := by rw [hacc, List.take_of_length_le (by omega), ← hPd, hq]
    subst hf
    repeat first|refine n1 ?_|refine n7 ?_
    refine VS.pick [2, 3, 5] [0, 1, 2, 3] (by simp [hF]) ?_;simp [hF]
    simp only [dHp, dHb, dJB, dBB]
    exact key ()
  ·have hq : F = fromQ h minor := by rw [hFF, fromQ, if_neg (by simp [hm])]
   subst hq
   repeat first|refine n1 ?_|refine n2 ?_
   refine VS.pick [2, 3, 5] [0, 1, 2, 3] (by simp [hF]) ?_;simp [hF]
   exact key ()
 generalize hFQ : fromQ h minor = FQ at *
 have hQm : ∀ z, z ∈ FQ ↔ z ∈ fromOf h minor := fun z => by rw [← hFQ]; exact fromQ_mem k minor z
 repeat first|refine n1 ?_|(refine rg 9 [2, 3, 5] [2, 3, 5, 11] [] ?_;simp (maxSteps := 1000000) [hF])
 refine VS.cool 5 (by simp (maxSteps := 1000000) [hF]) ?_;simp [hF, St.cool]
 repeat first|(refine rg 10 [2, 3, 5, 11] [2, 3, 11] [] ?_;simp (maxSteps := 1000000) [hF])
 refine (reach_c h k minor FQ false (by omega) [] (by simp)).go [(0, []), (5, [.d])] (by simp (maxSteps := 1000000) [hF, hsn, dHp, dHb]) ?_;rintro av X κ ⟨S1, hS1, rfl, rfl⟩;simp (maxSteps := 1000000) [hF, hsn, dHp, dHb]
 have hfst : ∀ x, x ∈ S1 ↔ RS (slotsOf h) (skipP h minor) (fromOf h minor) x := fun x => by
  rw [hS1.done x, ← RS_mem hQm]; simp; rfl
 repeat first|refine n1 ?_|((first|refine rg 11 [2, 3, 11] [2, 3, 11, 12] [] ?_|refine rg 12 [2, 3, 11, 12] [2, 3, 11, 12, 13] [] ?_|refine rg 13 [2, 3, 11, 12, 13] [2, 3, 11, 12, 13, 14] [] ?_);simp (maxSteps := 1000000) [hF])
 refine VS.hold0 13 1 (by simp) ?_
 simp (maxSteps := 1000000) [hF]
 refine VS.hold0 14 2 (by simp) ?_
 repeat first|refine n3 ?_|(refine rg 14 [2, 3, 11, 12, 13, 14] [2, 3, 11, 12, 13, 14, 60, 61, 62] [] ?_;simp (maxSteps := 1000000) [hF])
 refine VS.pick [2, 3, 11, 12, 13, 14, 60, 61, 62] [0, 1, 2, 5, 6, 7] (by simp [hF]) ?_;simp [hF]
 obtain ⟨fst, hfs⟩ : ∃ fst : Int → Bool, fst = fun x => decide (x ∈ S1) := ⟨_, rfl⟩
 have hdd : ∀ f ∈ h.fins, deadV h S1 minor f.1 = deadB h minor fst f := fun f hf => by
  rw [deadV, k.fins f hf, hfs, deadB]; rfl
 refine VS.widen [(0, [.d])] (by simp [covers, mpre]) ?_
 refine VS.rounds (fun m st => ∃ (i : Nat) (D L : List (Int × Int)) (Q A : List Int), Q = h.queue ++ D.map (·.2) ∧ A = D.map (·.1) ∧ i + m = h.fins.length ∧ D = (h.fins.take i).filter (deadB h minor fst) ∧ L = (h.fins.take i).filter (fun f => !deadB h minor fst f) ∧
  st = ⟨[(2, .ptr 1 [.d]), (3, .ptr 2 [.d]), (11, .ptr 3 [.d]), (12, .fn 95 (.cons (.ptr 1 [.d]) (.cons (.ptr 3 [.d]) (.cons (.ptr 2 [.d]) .nil)))), (13, .sub 4 [] 0 A.length false), (14, .sub 5 [] 0 L.length false), (60, .sub 0 [.d, .f 5] 0 h.fins.length false), (61, avInt h.fins.length), (62, avInt i)],
   [dHp { h with queue := Q }, dJB, dBB minor, dSB S1, .sl true () 1 (dInts A), .sl true () 2 (dEns L)], [(0, [.d])], [(1, [.d], .ptr 0 [.d])]⟩)
  ⟨h.fins.length, 0, [], [], h.queue, [], by simp, by simp, by omega, by simp, by simp, by simp [dHp, dHb, dJB, dBB, dSB, dSn]⟩ ?_
 rintro m st ⟨i, D, L, Q, A, hQ, hA, hi, hD, hL, rfl⟩
 have hDl : D.length ≤ i := by
  rw [hD]
  exact Nat.le_trans (List.length_filter_le _ _) (by rw [List.length_take]; omega)
 have hLl : L.length ≤ i := by
  rw [hL]
  exact Nat.le_trans (List.length_filter_le _ _) (by rw [List.length_take]; omega)
 repeat first|refine n1 ?_|((first|refine rg 15 [2, 3, 11, 12, 13, 14, 60, 61, 62] [2, 3, 11, 12, 13, 14, 60, 61, 62, 63] [] ?_|refine nc ?_);simp (maxSteps := 1000000) [hF])
 refine ⟨fun hlt => ?_, fun hge => ?_⟩
 ·have hn1 := dEns_nth hlt
  have hw : IntKind.i64.wrap ((i : Int) + 1) = (i + 1 : Nat) := by rw [IntWalk.i64_in _ (by omega)]; rfl
  have hdv := hdd _ (List.getElem_mem hlt)
  have hDs : (h.fins.take (i + 1)).filter (deadB h minor fst) = if deadB h minor fst h.fins[i] = true then D ++ [h.fins[i]] else D := by
   rw [take_succ_at hlt, List.filter_append, ← hD]
   by_cases e : deadB h minor fst h.fins[i] = true <;> simp [e]
  have hLs : (h.fins.take (i + 1)).filter (fun f => !deadB h minor fst f) = if deadB h minor fst h.fins[i] = true then L else L ++ [h.fins[i]] := by
   rw [take_succ_at hlt, List.filter_append, ← hL]
   by_cases e : deadB h minor fst h.fins[i] = true <;> simp [e]
  have hQl : Q.length ≤ 2000000 := by rw [hQ]; simp; omega
  have hAl : A.length ≤ 1000000 := by rw [hA]; simp; omega
  have kq : Ok { h with queue := Q } := ok_fq (F := h.fins) k k.fins _
  repeat first|refine n1 ?_|refine n2 ?_|refine n3 ?_|((first|refine rg 16 [2, 3, 11, 12, 13, 14, 60, 61, 62] [2, 3, 11, 12, 13, 14, 16, 60, 61, 62] [] ?_|refine rg 17 [2, 3, 11, 12, 13, 14, 16, 60, 61, 62] [2, 3, 11, 12, 13, 14, 16, 60, 61, 62, 70] [] ?_);simp (maxSteps := 1000000) [hF, dHp, dHb, hn1, hlt])
  cases hdb : deadB h minor fst h.fins[i] with
  | true =>
   rw [hdb] at hdv
   rw [hdb, if_pos rfl] at hDs hLs
   have hdv' : deadV { h with queue := Q } S1 minor h.fins[i].1 = true := hdv
   have c1 : (Q.length + 1) * 8 ≤ 140737488355328 := by omega
   have c2 : Q.length ≤ 9223372036854775806 := by omega
   have c3 : (A.length + 1) * 8 ≤ 140737488355328 := by omega
   have c4 : A.length ≤ 9223372036854775806 := by omega
   have hm1 : (dInts (Q ++ [h.fins[i].2])).mid 0 (Q.length + 1) = dInts (Q ++ [h.fins[i].2]) := sq_mid_all _ _ (by simp)
   have hm2 : (dInts (A ++ [h.fins[i].1])).mid 0 (A.length + 1) = dInts (A ++ [h.fins[i].1]) := sq_mid_all _ _ (by simp)
   refine (dead_ok { h with queue := Q } kq S1 minor h.fins[i].1).goP [(0, []), (1, []), (3, []), (2, [])] (by simp (maxSteps := 1000000) [hF, plsOk, dHp, dHb, dJB, dSB, dBB, hdv']) ?_;rintro av X κ ⟨rfl, rfl, rfl⟩;simp (maxSteps := 1000000) [hF, dHp, dHb, dJB, dSB, dBB, hdv']
   repeat first|refine n1 ?_|refine n2 ?_|(refine nc ?_;simp (maxSteps := 1000000) [hF])
   refine ghostL 0 [.d, .f 6] ?_;simp (maxSteps := 1000000) [hF, St.lift, AV.lift, liftPl, stripP, nodeAV, isNode]
   refine VS.widen [(0, [.d])] (by simp [covers, mpre]) ?_
   apply merged
   ·intro key
    repeat first|((refine dr 19 0 [2, 3, 11, 12, 13, 14, 16, 60, 61, 62] [2, 3, 11, 12, 13, 14, 16, 60, 61, 62] [] [⟨0, 4, 37778931862957161709568, 6⟩, ⟨0, 4, 75557863725914323419136, 6⟩, ⟨2, 75557863725914323419136, 151115727451828646838272, 5⟩, ⟨4, 151115727451828646838272, 302231454903657293676544, 5⟩, ⟨8, 302231454903657293676544, 604462909807314587353088, 6⟩, ⟨0, 65536, 1208925819614629174706176, 5⟩, ⟨32, 1208925819614629174706176, 2417851639229258349412352, 6⟩, ⟨64, 2417851639229258349412352, 4835703278458516698824704, 4⟩, ⟨144, 5440166188265831286177792, 9671406556917033397649408, 0⟩, ⟨511, 37778931862957161709568, 19342813113834066795298816, 5⟩, ⟨1023, 19342813113834066795298816, 38685626227668133590597632, 5⟩, ⟨1535, 48357032784585166988247040, 0, 0⟩] (.take 1 (.take 2 (.take 3 (.take 4 (.take 5 (.take 6 (.fork (.alt 0 (.fork (.alt 7 (.fork (.alt 8 (.take 9 (.take 10 (.fork (.alt 11 (.done) (.nil))))) (.nil))) (.nil))) (.alt 7 (.fork (.alt 0 (.fork (.alt 8 (.take 9 (.take 10 (.fork (.alt 11 (.done) (.nil))))) (.nil))) (.alt 8 (.take 0 (.take 9 (.take 10 (.fork (.alt 11 (.done) (.nil)))))) (.nil)))) (.nil)))))))))) (.run [1, 2, 3, 4, 5, 6] (.both (.run [0, 7, 8, 9, 10, 11] (.done)) (.run [7] (.both (.run [0, 8, 9, 10, 11] (.done)) (.run [8, 0, 9, 10, 11] (.done)))))) ?_;simp only [drs]);simp (maxSteps := 1000000) [hF, c1, c2, hm1])
    (repeat' with_reducible refine And.intro ?_ ?_)
    all_goals (refine VS.pick [2, 3, 11, 12, 13, 14, 16, 60, 61, 62] [0, 1, 2, 3, 4, 5, 6] (by simp [hF]) ?_;simp [hF])
    all_goals exact key ()
   refine VS.widen [(0, [.d])] (by simp [covers, mpre]) ?_
   repeat first|refine n4 ?_|refine n5 ?_|refine n6 ?_|((first|refine rg 20 [2, 3, 11, 12, 13, 14, 16, 60, 61, 62] [2, 3, 11, 12, 13, 14, 60, 61, 62] [] ?_|refine rg 21 [2, 3, 11, 12, 13, 14, 60, 61, 62] [2, 3, 11, 12, 13, 14, 60, 61, 62] [] ?_);simp (maxSteps := 1000000) [hF, c3, c4, hm2, hw])
   refine nextK.of [2, 3, 11, 12, 13, 14, 60, 61, 62] [0, 1, 2, 3, 4, 5] (m - 1) (by omega) (by simp [hF]) ?_
   exact ⟨i + 1, D ++ [h.fins[i]], L, Q ++ [h.fins[i].2], A ++ [h.fins[i].1], by rw [hQ]; simp, by rw [hA]; simp, by omega, hDs.symm, hLs.symm, by simp [dHp, dHb, dJB, dBB, dSB]⟩
  | false =>
   rw [hdb] at hdv
   rw [hdb, if_neg (by simp)] at hDs hLs
   have hdv' : deadV { h with queue := Q } S1 minor h.fins[i].1 = false := hdv
   have c3 : (L.length + 1) * 16 ≤ 140737488355328 := by omega
   have c4 : L.length ≤ 9223372036854775806 := by omega
   have hp := dEns_push L h.fins[i].1 h.fins[i].2
   have hm1 := dEns_mid1 L (h.fins[i].1, h.fins[i].2)
   refine (dead_ok { h with queue := Q } kq S1 minor h.fins[i].1).goP [(0, []), (1, []), (3, []), (2, [])] (by simp (maxSteps := 1000000) [hF, plsOk, dHp, dHb, dJB, dSB, dBB, hdv']) ?_;rintro av X κ ⟨rfl, rfl, rfl⟩;simp (maxSteps := 1000000) [hF, dHp, dHb, dJB, dSB, dBB, hdv']
   repeat first|refine n1 ?_|refine n4 ?_|refine n6 ?_|refine n7 ?_|refine n8 ?_|((first|refine rg 18 [2, 3, 11, 12, 13, 14, 16, 60, 61, 62] [2, 3, 11, 12, 13, 14, 60, 61, 62] [] ?_|refine rg 21 [2, 3, 11, 12, 13, 14, 60, 61, 62] [2, 3, 11, 12, 13, 14, 60, 61, 62] [] ?_|refine nc ?_);simp (maxSteps := 1000000) [hF, hp, hm1, c3, c4, hw])
   refine nextK.of [2, 3, 11, 12, 13, 14, 60, 61, 62] [0, 1, 2, 3, 4, 5] (m - 1) (by omega) (by simp [hF]) ?_
   exact ⟨i + 1, D, L ++ [(h.fins[i].1, h.fins[i].2)], Q, A, hQ, hA, by omega, hDs.symm, hLs.symm, by simp [dHp, dHb, dJB, dBB, dSB]⟩
 ·have hDf : D = h.fins.filter (deadB h minor fst) := by rw [hD, List.take_of_length_le (by omega)]
  have hLf : L = h.fins.filter (fun f => !deadB h minor fst f) := by rw [hL, List.take_of_length_le (by omega)]
  have hl1 : liveHp h minor fst = { h with fins := L, queue := Q } := by rw [liveHp, ← hDf, ← hLf, ← hQ]
  have hA2 : A = againOf h minor fst := by rw [againOf, ← hDf, hA]
  have hFt : ∀ f ∈ L, there h f.1 = true := fun f hf => k.fins f (List.mem_filter.1 (by rw [hLf] at hf; exact hf)).1
  have kl : Ok { h with fins := L, queue := Q } := ok_fq k hFt Q
  have hAl : A.length ≤ 1000000 := by rw [hA]; simp; omega
  have hml : (dEns L).mid 0 L.length = dEns L := by simp
  have hcl : ∀ x ∈ S1, ∀ y ∈ slotsOf { h with fins := L, queue := Q } x, skipP { h with fins := L, queue := Q } minor y = false → y ∈ S1 := fun x hx y hy hs => by
   rw [hfst] at hx ⊢
   exact .step hx hy hs
  repeat first|refine n1 ?_|refine n7 ?_|(refine rg 22 [2, 3, 11, 13, 14] [2, 3, 11, 13] [] ?_;simp (maxSteps := 1000000) [hF, dHp, dHb, dJB, dSB, dBB, hml])
  refine VS.cool 13 (by simp (maxSteps := 1000000) [hF]) ?_;simp [hF, St.cool]
  refine VS.widen [(0, [.d])] (by simp [covers, mpre]) ?_
  repeat first|(refine rg 23 [2, 3, 11, 13] [11] [] ?_;simp (maxSteps := 1000000) [hF, dSn, dBB])
  refine (reach_c { h with fins := L, queue := Q } kl minor A false (by omega) S1 hcl).go [(0, []), (3, [.d])] (by simp (maxSteps := 1000000) [hF, dHp, dHb, dSn]) ?_;rintro av X κ ⟨S2, hS2, rfl, rfl⟩;simp (maxSteps := 1000000) [hF, dHp, dHb, dSn]
  have hv : Lv h minor (fun x => decide (x ∈ S1)) (fun x => decide (x ∈ S2)) := by
   refine ⟨fun x => by simp only [decide_eq_true_eq]; exact hfst x, fun x => ?_⟩
   simp only [decide_eq_true_eq]
   refine (hS2.done x).trans ?_
   show x ∈ S1 ∨ RS (slotsOf h) (skipP h minor) A x ↔ _
   rw [hfst x, ← hfs, ← hA2, RS_app]
  rw [hfs] at hl1
  repeat first|refine n1 ?_
  refine VS.pick [11] [0, 3] (by simp [hF]) ?_;simp [hF]
  refine ghostL 1 [.d] ?_;simp (maxSteps := 1000000) [hF, St.lift, AV.lift, liftPl, stripP, nodeAV, isNode]
  refine VS.widen [(0, [.d])] (by simp [covers, mpre]) ?_
  repeat first|(refine rg 24 [11] [4] [] ?_;simp (maxSteps := 1000000) [hF])
  (try refine nr ?_);(repeat first|refine nb_ ?_|refine nl_ ?_);refine endK.o [4] [0, 2] [(0, [.d])] ?_;simp [hF, retK, covers, mpre]
  refine ⟨S1, S2, hv, ?_⟩
  rw [hl1]
  simp [dHp, dHb, dSn]
/- (*cabochon/heap.Heap).collect$1 -/
theorem keptO_ok (h : Hp) (b1 : h.young.length ≤ 1000) (b2 : h.old.length ≤ 1000) (hwl : h.weak.length ≤ 1000000) (S : List Int) (minor : Bool) (g : Int) (hg : 0 ≤ g ∧ g ≤ 1000000) : MeetsP Try.prog 74 [dHp h, dJB, dSB S, dBB minor, dIB g] [(1, [.d], .ptr 0 [.d])]
  (.cons (avInt 1) (.cons (.ptr 1 [.d]) (.cons (.ptr 2 [.d]) (.cons (.ptr 3 [.d]) (.cons (.ptr 4 [.d]) .nil)))))
  fun av X κ => av = .sub 5 [] 0 (h.old.filter (fun o : Ob => decide (o.handle ∈ S) || minor)).length false ∧
   X = [dHx (.sl true () 3 (dObs true h.young)) (.sl true () 3 (dObsJ h.old.length h.old)) { h with weak := h.weak.map (clrS ((h.old.filter fun o => !(fun o : Ob => decide (o.handle ∈ S) || minor) o).map (·.handle))) }, dJB, dSB S, dBB minor, dIB (g + (h.old.filter fun o => !(fun o : Ob => decide (o.handle ∈ S) || minor) o).length), .sl true () 3 (dObs true (h.old.filter (fun o : Ob => decide (o.handle ∈ S) || minor)))] ∧ κ = [(0, [.d, .f 1, .f 1, .i 0]), (0, [.d, .f 4, .i 0]), (4, [.d])] := by
 refine fbP Try.func74 Try.ntmps74 [.tmp 6] fun w0 I0 F0 hF => ?_
 repeat first|refine n1 ?_|((first|refine rg 0 [0, 1, 2, 3, 4] [0, 1, 2, 3, 4] [] ?_|refine rg 1 [0, 1, 2, 3, 4] [0, 1, 2, 3, 4, 7] [] ?_);simp (maxSteps := 1000000) [hF])
 refine VS.hold0 7 3 (by simp) ?_
 repeat first|refine n3 ?_|(refine rg 2 [0, 1, 2, 3, 4, 7] [0, 1, 2, 3, 4, 7, 15, 16, 17] [] ?_;simp (maxSteps := 1000000) [hF, dJB, dHp, dHb])
 refine VS.widen [(0, [.d, .f 1, .f 1, .i 0]), (0, [.d, .f 4, .i 0]), (4, [.d])] (by simp [covers, mpre]) ?_
 refine VS.rounds (fun m st => ∃ (i : Nat) (out : List Ob) (D : List Int) (W : List (Int × Int)), i + m = h.old.length ∧ out = (h.old.take i).filter (fun o : Ob => decide (o.handle ∈ S) || minor) ∧ D = ((h.old.take i).filter fun o => !(fun o : Ob => decide (o.handle ∈ S) || minor) o).map (·.handle) ∧ W = h.weak.map (clrS D) ∧
  st = ⟨[(0, avInt 1), (1, .ptr 1 [.d]), (2, .ptr 2 [.d]), (3, .ptr 3 [.d]), (4, .ptr 4 [.d]), (7, .sub 5 [] 0 out.length false), (15, .sub 0 [.d, .f 1, .f 1] 0 h.old.length false), (16, avInt h.old.length), (17, avInt i)], [dHx (.sl true () 3 (dObs true h.young)) (.sl true () 3 (dObsJ i h.old)) { h with weak := W }, dJB, dSB S, dBB minor, dIB (g + D.length), .sl true () 3 (dObs true out)], [(0, [.d, .f 1, .f 1, .i 0]), (0, [.d, .f 4, .i 0]), (4, [.d])], [(1, [.d], .ptr 0 [.d])]⟩)
  ⟨h.old.length, 0, [], [], h.weak, by omega, by simp, by simp, (clrS_nil _).symm, by simp [dHx, dJB, dSB, dBB, dIB, dObsJ_zero]⟩ ?_
 rintro m st ⟨i, out, D, W, hi, hout, hD, hW, rfl⟩
 have hWl : W.length ≤ 1000000 := by rw [hW, List.length_map]; exact hwl
 have hol : out.length ≤ 1000 := by
  rw [hout]
  exact Nat.le_trans (List.length_filter_le _ _) (by rw [List.length_take]; omega)
 have hDl : D.length ≤ 1000 := by
  rw [hD, List.length_map]
  exact Nat.le_trans (List.length_filter_le _ _) (by rw [List.length_take]; omega)
 repeat first|refine n1 ?_|((first|refine rg 3 [0, 1, 2, 3, 4, 7, 15, 16, 17] [0, 1, 2, 3, 4, 7, 15, 16, 17, 18] [] ?_|refine nc ?_);simp (maxSteps := 1000000) [hF])
 refine ⟨fun hlt => ?_, fun hge => ?_⟩
 ·have hn0 := dObsJ_nth hlt
  have hn1 := dObsJ_nth1 hlt
  have hst := dObsJ_step hlt
  have hw : IntKind.i64.wrap ((i : Int) + 1) = (i + 1 : Nat) := by rw [IntWalk.i64_in _ (by omega)]; rfl
  have hw2 : IntKind.i64.wrap (g + (D.length : Int) + 1) = g + (D.length : Int) + 1 := IntWalk.i64_in _ (by omega)
  have hp := dObs_push true out h.old[i].handle h.old[i].age h.old[i].slots
  have hm1 := dObs_mid1 true out ⟨h.old[i].handle, h.old[i].age, h.old[i].slots⟩
  have hm2 := dInts_mid h.old[i].slots
  have c1 : (out.length + 1) * 40 ≤ 140737488355328 := by omega
  have c2 : out.length ≤ 9223372036854775806 := by omega
  refine ghostL 0 [.d, .f 1, .f 1, .i i, .f 2] ?_;simp (maxSteps := 1000000) [hF, St.lift, AV.lift, liftPl, stripP, nodeAV, isNode, dHx, hn0, hlt, hst]
  by_cases hs : h.old[i].handle ∈ S
  ·have hfy := snE_yes hs
   have hos : (h.old.take (i + 1)).filter (fun o : Ob => decide (o.handle ∈ S) || minor) = out ++ [⟨h.old[i].handle, h.old[i].age, h.old[i].slots⟩] := by
    rw [take_succ_at hlt, List.filter_append, ← hout]; simp [hs]
   have hds : ((h.old.take (i + 1)).filter fun o => !(fun o : Ob => decide (o.handle ∈ S) || minor) o).map (·.handle) = D := by
    rw [take_succ_at hlt, List.filter_append, List.map_append, ← hD]; simp [hs]
   repeat first|refine n1 ?_|refine n2 ?_|refine n3 ?_|((first|refine rg 4 [0, 1, 2, 3, 4, 7, 15, 16, 17] [0, 1, 2, 3, 4, 7, 9, 15, 16, 17] [] ?_|refine rg 5 [0, 1, 2, 3, 4, 7, 9, 15, 16, 17] [0, 1, 2, 3, 4, 7, 9, 15, 16, 17, 31] [(4, 25), (6, 27)] ?_|refine nc ?_);simp (maxSteps := 1000000) [hF, dHx, hn1, hlt, dSB, dSn, dBB, hfy])
   refine ghostL 7 [.d, .f 2] ?_;simp (maxSteps := 1000000) [hF, St.lift, AV.lift, liftPl, stripP, nodeAV, isNode]
   repeat first|refine n7 ?_|refine n8 ?_|(refine rg 6 [0, 1, 2, 3, 4, 7, 9, 15, 16, 17] [0, 1, 2, 3, 4, 7, 15, 16, 17] [] ?_;simp (maxSteps := 1000000) [hF, hp, hm1, hm2, c1, c2])
   refine VS.widen [(0, [.d, .f 1, .f 1, .i 0]), (0, [.d, .f 4, .i 0]), (4, [.d])] (by simp [covers, mpre]) ?_
   repeat first|refine n4 ?_|refine n6 ?_|(refine rg 9 [0, 1, 2, 3, 4, 7, 15, 16, 17] [0, 1, 2, 3, 4, 7, 15, 16, 17] [] ?_;simp (maxSteps := 1000000) [hF, hw])
   refine nextK.of [0, 1, 2, 3, 4, 7, 15, 16, 17] [0, 1, 2, 3, 4, 5] (m - 1) (by omega) (by simp [hF]) ?_
   exact ⟨i + 1, out ++ [⟨h.old[i].handle, h.old[i].age, h.old[i].slots⟩], D, W, by omega, hos.symm, hds.symm, hW, by simp [dHx, dHb, dJB, dBB, dSB, dSn, dIB]⟩
  ·have hfn := snE_no hs
   cases minor with
   | true =>
    have hos : (h.old.take (i + 1)).filter (fun o : Ob => decide (o.handle ∈ S) || true) = out ++ [⟨h.old[i].handle, h.old[i].age, h.old[i].slots⟩] := by
     rw [take_succ_at hlt, List.filter_append, ← hout]; simp
    have hds : ((h.old.take (i + 1)).filter fun o => !(fun o : Ob => decide (o.handle ∈ S) || true) o).map (·.handle) = D := by
     rw [take_succ_at hlt, List.filter_append, List.map_append, ← hD]; simp
    repeat first|refine n1 ?_|refine n2 ?_|refine n3 ?_|((first|refine rg 4 [0, 1, 2, 3, 4, 7, 15, 16, 17] [0, 1, 2, 3, 4, 7, 9, 15, 16, 17] [] ?_|refine rg 5 [0, 1, 2, 3, 4, 7, 9, 15, 16, 17] [0, 1, 2, 3, 4, 7, 9, 15, 16, 17, 31] [(4, 25), (6, 27)] ?_|refine nc ?_);simp (maxSteps := 1000000) [hF, dHx, hn1, hlt, dSB, dSn, dBB, hfn])
    refine ghostL 7 [.d, .f 2] ?_;simp (maxSteps := 1000000) [hF, St.lift, AV.lift, liftPl, stripP, nodeAV, isNode]
    repeat first|refine n7 ?_|refine n8 ?_|(refine rg 6 [0, 1, 2, 3, 4, 7, 9, 15, 16, 17] [0, 1, 2, 3, 4, 7, 15, 16, 17] [] ?_;simp (maxSteps := 1000000) [hF, hp, hm1, hm2, c1, c2])
    refine VS.widen [(0, [.d, .f 1, .f 1, .i 0]), (0, [.d, .f 4, .i 0]), (4, [.d])] (by simp [covers, mpre]) ?_
    repeat first|refine n4 ?_|refine n6 ?_|(refine rg 9 [0, 1, 2, 3, 4, 7, 15, 16, 17] [0, 1, 2, 3, 4, 7, 15, 16, 17] [] ?_;simp (maxSteps := 1000000) [hF, hw])
    refine nextK.of [0, 1, 2, 3, 4, 7, 15, 16, 17] [0, 1, 2, 3, 4, 5] (m - 1) (by omega) (by simp [hF]) ?_
    exact ⟨i + 1, out ++ [⟨h.old[i].handle, h.old[i].age, h.old[i].slots⟩], D, W, by omega, hos.symm, hds.symm, hW, by simp [dHx, dHb, dJB, dBB, dSB, dSn, dIB]⟩
   | false =>
    have hos : (h.old.take (i + 1)).filter (fun o : Ob => decide (o.handle ∈ S) || false) = out := by
     rw [take_succ_at hlt, List.filter_append, ← hout]; simp [hs]
    have hds : ((h.old.take (i + 1)).filter fun o => !(fun o : Ob => decide (o.handle ∈ S) || false) o).map (·.handle) = D ++ [h.old[i].handle] := by
     rw [take_succ_at hlt, List.filter_append, List.map_append, ← hD]; simp [hs]
    repeat first|refine n1 ?_|refine n2 ?_|refine n3 ?_|((first|refine rg 4 [0, 1, 2, 3, 4, 7, 15, 16, 17] [0, 1, 2, 3, 4, 7, 9, 15, 16, 17] [] ?_|refine rg 5 [0, 1, 2, 3, 4, 7, 9, 15, 16, 17] [0, 1, 2, 3, 4, 7, 9, 15, 16, 17, 31] [(4, 25), (6, 27)] ?_|refine rg 7 [0, 1, 2, 3, 4, 7, 9, 15, 16, 17] [0, 1, 2, 3, 4, 7, 9, 15, 16, 17] [] ?_|refine nc ?_);simp (maxSteps := 1000000) [hF, dHx, hn1, hlt, dSB, dSn, dBB, dIB, hw2, hfn])
    refine VS.widen [(0, [.d, .f 1, .f 1, .i 0]), (0, [.d, .f 4, .i 0]), (4, [.d])] (by simp [covers, mpre]) ?_
    repeat first|(refine rg 8 [0, 1, 2, 3, 4, 7, 9, 15, 16, 17] [0, 1, 2, 3, 4, 7, 15, 16, 17] [] ?_;simp (maxSteps := 1000000) [hF, dHx, hn1, dJB])
    refine (cleared_ok (.sl true () 3 (dObs true h.young)) (.sl true () 3 (dObsJ (i + 1) h.old)) (by simp) (by simp) { h with weak := W } hWl h.old[i].handle).go [(0, [])] (by simp (maxSteps := 1000000) [hF, dHx]) ?_;rintro av X κ ⟨rfl, rfl⟩;simp (maxSteps := 1000000) [hF, dHx]
    repeat first|refine n4 ?_|refine n5 ?_
    refine VS.widen [(0, [.d, .f 1, .f 1, .i 0]), (0, [.d, .f 4, .i 0]), (4, [.d])] (by simp [covers, mpre]) ?_
    repeat first|refine n4 ?_|refine n6 ?_|(refine rg 9 [0, 1, 2, 3, 4, 7, 15, 16, 17] [0, 1, 2, 3, 4, 7, 15, 16, 17] [] ?_;simp (maxSteps := 1000000) [hF, hw])
    refine nextK.of [0, 1, 2, 3, 4, 7, 15, 16, 17] [0, 1, 2, 3, 4, 5] (m - 1) (by omega) (by simp [hF]) ?_
    exact ⟨i + 1, out, D ++ [h.old[i].handle], W.map (clr1 h.old[i].handle), by omega, hos.symm, hds.symm, by rw [hW, clr_step], by simp [dHx, dHb, dJB, dBB, dSB, dSn, dIB]; omega⟩
 ·have hof : out = h.old.filter (fun o : Ob => decide (o.handle ∈ S) || minor) := by rw [hout, List.take_of_length_le (by omega)]
  have hdf : D = ((h.old.filter fun o => !(fun o : Ob => decide (o.handle ∈ S) || minor) o).map (·.handle)) := by rw [hD, List.take_of_length_le (by omega)]
  have hdl : (D.length : Int) = ((h.old.filter fun o => !(fun o : Ob => decide (o.handle ∈ S) || minor) o).length : Nat) := by rw [hdf, List.length_map]
  obtain rfl : i = h.old.length := by omega
  rw [← hof, ← hdf, ← hdl, ← hW]
  repeat first|refine n1 ?_|refine n7 ?_|(refine rg 10 [7] [6] [] ?_;simp (maxSteps := 1000000) [hF])
  (try refine nr ?_);(repeat first|refine nb_ ?_|refine nl_ ?_);refine endK.o [6] [0, 1, 2, 3, 4, 5] [(0, [.d, .f 1, .f 1, .i 0]), (0, [.d, .f 4, .i 0]), (4, [.d])] ?_;simp [hF, retK, covers, mpre, dHx, dJB, dSB, dBB, dIB]
/- (*cabochon/heap.Heap).collect$1 -/
theorem keptY_ok (h : Hp) (b1 : h.young.length ≤ 1000) (b2 : h.old.length ≤ 1000) (hwl : h.weak.length ≤ 1000000) (S : List Int) (minor : Bool) (g : Int) (hg : 0 ≤ g ∧ g ≤ 1000000) : MeetsP Try.prog 74 [dHp h, dJB, dSB S, dBB minor, dIB g] [(1, [.d], .ptr 0 [.d])]
  (.cons (avInt 0) (.cons (.ptr 1 [.d]) (.cons (.ptr 2 [.d]) (.cons (.ptr 3 [.d]) (.cons (.ptr 4 [.d]) .nil)))))
  fun av X κ => av = .sub 5 [] 0 (h.young.filter (fun o : Ob => decide (o.handle ∈ S))).length false ∧
   X = [dHx (.sl true () 3 (dObsJ h.young.length h.young)) (.sl true () 3 (dObs true h.old)) { h with weak := h.weak.map (clrS ((h.young.filter fun o => !(fun o : Ob => decide (o.handle ∈ S)) o).map (·.handle))) }, dJB, dSB S, dBB minor, dIB (g + (h.young.filter fun o => !(fun o : Ob => decide (o.handle ∈ S)) o).length), .sl true () 3 (dObs true (h.young.filter (fun o : Ob => decide (o.handle ∈ S))))] ∧ κ = [(0, [.d, .f 1, .f 0, .i 0]), (0, [.d, .f 4, .i 0]), (4, [.d])] := by
 refine fbP Try.func74 Try.ntmps74 [.tmp 6] fun w0 I0 F0 hF => ?_
 repeat first|refine n1 ?_|((first|refine rg 0 [0, 1, 2, 3, 4] [0, 1, 2, 3, 4] [] ?_|refine rg 1 [0, 1, 2, 3, 4] [0, 1, 2, 3, 4, 7] [] ?_);simp (maxSteps := 1000000) [hF])
 refine VS.hold0 7 3 (by simp) ?_
 repeat first|refine n3 ?_|(refine rg 2 [0, 1, 2, 3, 4, 7] [0, 1, 2, 3, 4, 7, 15, 16, 17] [] ?_;simp (maxSteps := 1000000) [hF, dJB, dHp, dHb])
 refine VS.widen [(0, [.d, .f 1, .f 0, .i 0]), (0, [.d, .f 4, .i 0]), (4, [.d])] (by simp [covers, mpre]) ?_
 refine VS.rounds (fun m st => ∃ (i : Nat) (out : List Ob) (D : List Int) (W : List (Int × Int)), i + m = h.young.length ∧ out = (h.young.take i).filter (fun o : Ob => decide (o.handle ∈ S)) ∧ D = ((h.young.take i).filter fun o => !(fun o : Ob => decide (o.handle ∈ S)) o).map (·.handle) ∧ W = h.weak.map (clrS D) ∧
  st = ⟨[(0, avInt 0), (1, .ptr 1 [.d]), (2, .ptr 2 [.d]), (3, .ptr 3 [.d]), (4, .ptr 4 [.d]), (7, .sub 5 [] 0 out.length false), (15, .sub 0 [.d, .f 1, .f 0] 0 h.young.length false), (16, avInt h.young.length), (17, avInt i)], [dHx (.sl true () 3 (dObsJ i h.young)) (.sl true () 3 (dObs true h.old)) { h with weak := W }, dJB, dSB S, dBB minor, dIB (g + D.length), .sl true () 3 (dObs true out)], [(0, [.d, .f 1, .f 0, .i 0]), (0, [.d, .f 4, .i 0]), (4, [.d])], [(1, [.d], .ptr 0 [.d])]⟩)
  ⟨h.young.length, 0, [], [], h.weak, by omega, by simp, by simp, (clrS_nil _).symm, by simp [dHx, dJB, dSB, dBB, dIB, dObsJ_zero]⟩ ?_
 rintro m st ⟨i, out, D, W, hi, hout, hD, hW, rfl⟩
 have hWl : W.length ≤ 1000000 := by rw [hW, List.length_map]; exact hwl
 have hol : out.length ≤ 1000 := by
  rw [hout]
  exact Nat.le_trans (List.length_filter_le _ _) (by rw [List.length_take]; omega)
 have hDl : D.length ≤ 1000 := by
  rw [hD, List.length_map]
  exact Nat.le_trans (List.length_filter_le _ _) (by rw [List.length_take]; omega)
 repeat first|refine n1 ?_|((first|refine rg 3 [0, 1, 2, 3, 4, 7, 15, 16, 17] [0, 1, 2, 3, 4, 7, 15, 16, 17, 18] [] ?_|refine nc ?_);simp (maxSteps := 1000000) [hF])
 refine ⟨fun hlt => ?_, fun hge => ?_⟩
 ·have hn0 := dObsJ_nth hlt
  have hn1 := dObsJ_nth1 hlt
  have hst := dObsJ_step hlt
  have hw : IntKind.i64.wrap ((i : Int) + 1) = (i + 1 : Nat) := by rw [IntWalk.i64_in _ (by omega)]; rfl
  have hw2 : IntKind.i64.wrap (g + (D.length : Int) + 1) = g + (D.length : Int) + 1 := IntWalk.i64_in _ (by omega)
  have hp := dObs_push true out h.young[i].handle h.young[i].age h.young[i].slots
  have hm1 := dObs_mid1 true out ⟨h.young[i].handle, h.young[i].age, h.young[i].slots⟩
  have hm2 := dInts_mid h.young[i].slots
  have c1 : (out.length + 1) * 40 ≤ 140737488355328 := by omega
  have c2 : out.length ≤ 9223372036854775806 := by omega
  refine ghostL 0 [.d, .f 1, .f 0, .i i, .f 2] ?_;simp (maxSteps := 1000000) [hF, St.lift, AV.lift, liftPl, stripP, nodeAV, isNode, dHx, hn0, hlt, hst]
  by_cases hs : h.young[i].handle ∈ S
  ·have hfy := snE_yes hs
   have hos : (h.young.take (i + 1)).filter (fun o : Ob => decide (o.handle ∈ S)) = out ++ [⟨h.young[i].handle, h.young[i].age, h.young[i].slots⟩] := by
    rw [take_succ_at hlt, List.filter_append, ← hout]; simp [hs]
   have hds : ((h.young.take (i + 1)).filter fun o => !(fun o : Ob => decide (o.handle ∈ S)) o).map (·.handle) = D := by
    rw [take_succ_at hlt, List.filter_append, List.map_append, ← hD]; simp [hs]
   repeat first|refine n1 ?_|refine n2 ?_|refine n3 ?_|((first|refine rg 4 [0, 1, 2, 3, 4, 7, 15, 16, 17] [0, 1, 2, 3, 4, 7, 9, 15, 16, 17] [] ?_|refine rg 5 [0, 1, 2, 3, 4, 7, 9, 15, 16, 17] [0, 1, 2, 3, 4, 7, 9, 15, 16, 17, 31] [(4, 25), (6, 27)] ?_|refine nc ?_);simp (maxSteps := 1000000) [hF, dHx, hn1, hlt, dSB, dSn, dBB, hfy])
   refine ghostL 7 [.d, .f 2] ?_;simp (maxSteps := 1000000) [hF, St.lift, AV.lift, liftPl, stripP, nodeAV, isNode]
   repeat first|refine n7 ?_|refine n8 ?_|(refine rg 6 [0, 1, 2, 3, 4, 7, 9, 15, 16, 17] [0, 1, 2, 3, 4, 7, 15, 16, 17] [] ?_;simp (maxSteps := 1000000) [hF, hp, hm1, hm2, c1, c2])
   refine VS.widen [(0, [.d, .f 1, .f 0, .i 0]), (0, [.d, .f 4, .i 0]), (4, [.d])] (by simp [covers, mpre]) ?_
   repeat first|refine n4 ?_|refine n6 ?_|(refine rg 9 [0, 1, 2, 3, 4, 7, 15, 16, 17] [0, 1, 2, 3, 4, 7, 15, 16, 17] [] ?_;simp (maxSteps := 1000000) [hF, hw])
   refine nextK.of [0, 1, 2, 3, 4, 7, 15, 16, 17] [0, 1, 2, 3, 4, 5] (m - 1) (by omega) (by simp [hF]) ?_
   exact ⟨i + 1, out ++ [⟨h.young[i].handle, h.young[i].age, h.young[i].slots⟩], D, W, by omega, hos.symm, hds.symm, hW, by simp [dHx, dHb, dJB, dBB, dSB, dSn, dIB]⟩
  ·have hfn := snE_no hs
   have hos : (h.young.take (i + 1)).filter (fun o : Ob => decide (o.handle ∈ S)) = out := by
    rw [take_succ_at hlt, List.filter_append, ← hout]; simp [hs]
   have hds : ((h.young.take (i + 1)).filter fun o => !(fun o : Ob => decide (o.handle ∈ S)) o).map (·.handle) = D ++ [h.young[i].handle] := by
    rw [take_succ_at hlt, List.filter_append, List.map_append, ← hD]; simp [hs]
   cases minor with
   | true =>
    repeat first|refine n1 ?_|refine n2 ?_|refine n3 ?_|((first|refine rg 4 [0, 1, 2, 3, 4, 7, 15, 16, 17] [0, 1, 2, 3, 4, 7, 9, 15, 16, 17] [] ?_|refine rg 5 [0, 1, 2, 3, 4, 7, 9, 15, 16, 17] [0, 1, 2, 3, 4, 7, 9, 15, 16, 17, 31] [(4, 25), (6, 27)] ?_|refine rg 7 [0, 1, 2, 3, 4, 7, 9, 15, 16, 17] [0, 1, 2, 3, 4, 7, 9, 15, 16, 17] [] ?_|refine nc ?_);simp (maxSteps := 1000000) [hF, dHx, hn1, hlt, dSB, dSn, dBB, dIB, hw2, hfn])
    refine VS.widen [(0, [.d, .f 1, .f 0, .i 0]), (0, [.d, .f 4, .i 0]), (4, [.d])] (by simp [covers, mpre]) ?_
    repeat first|(refine rg 8 [0, 1, 2, 3, 4, 7, 9, 15, 16, 17] [0, 1, 2, 3, 4, 7, 15, 16, 17] [] ?_;simp (maxSteps := 1000000) [hF, dHx, hn1, dJB])
    refine (cleared_ok (.sl true () 3 (dObsJ (i + 1) h.young)) (.sl true () 3 (dObs true h.old)) (by simp) (by simp) { h with weak := W } hWl h.young[i].handle).go [(0, [])] (by simp (maxSteps := 1000000) [hF, dHx]) ?_;rintro av X κ ⟨rfl, rfl⟩;simp (maxSteps := 1000000) [hF, dHx]
    repeat first|refine n4 ?_|refine n5 ?_
    refine VS.widen [(0, [.d, .f 1, .f 0, .i 0]), (0, [.d, .f 4, .i 0]), (4, [.d])] (by simp [covers, mpre]) ?_
    repeat first|refine n4 ?_|refine n6 ?_|(refine rg 9 [0, 1, 2, 3, 4, 7, 15, 16, 17] [0, 1, 2, 3, 4, 7, 15, 16, 17] [] ?_;simp (maxSteps := 1000000) [hF, hw])
    refine nextK.of [0, 1, 2, 3, 4, 7, 15, 16, 17] [0, 1, 2, 3, 4, 5] (m - 1) (by omega) (by simp [hF]) ?_
    exact ⟨i + 1, out, D ++ [h.young[i].handle], W.map (clr1 h.young[i].handle), by omega, hos.symm, hds.symm, by rw [hW, clr_step], by simp [dHx, dHb, dJB, dBB, dSB, dSn, dIB]; omega⟩
   | false =>
    repeat first|refine n1 ?_|refine n2 ?_|refine n3 ?_|((first|refine rg 4 [0, 1, 2, 3, 4, 7, 15, 16, 17] [0, 1, 2, 3, 4, 7, 9, 15, 16, 17] [] ?_|refine rg 5 [0, 1, 2, 3, 4, 7, 9, 15, 16, 17] [0, 1, 2, 3, 4, 7, 9, 15, 16, 17, 31] [(4, 25), (6, 27)] ?_|refine rg 7 [0, 1, 2, 3, 4, 7, 9, 15, 16, 17] [0, 1, 2, 3, 4, 7, 9, 15, 16, 17] [] ?_|refine nc ?_);simp (maxSteps := 1000000) [hF, dHx, hn1, hlt, dSB, dSn, dBB, dIB, hw2, hfn])
    refine VS.widen [(0, [.d, .f 1, .f 0, .i 0]), (0, [.d, .f 4, .i 0]), (4, [.d])] (by simp [covers, mpre]) ?_
    repeat first|(refine rg 8 [0, 1, 2, 3, 4, 7, 9, 15, 16, 17] [0, 1, 2, 3, 4, 7, 15, 16, 17] [] ?_;simp (maxSteps := 1000000) [hF, dHx, hn1, dJB])
    refine (cleared_ok (.sl true () 3 (dObsJ (i + 1) h.young)) (.sl true () 3 (dObs true h.old)) (by simp) (by simp) { h with weak := W } hWl h.young[i].handle).go [(0, [])] (by simp (maxSteps := 1000000) [hF, dHx]) ?_;rintro av X κ ⟨rfl, rfl⟩;simp (maxSteps := 1000000) [hF, dHx]
    repeat first|refine n4 ?_|refine n5 ?_
    refine VS.widen [(0, [.d, .f 1, .f 0, .i 0]), (0, [.d, .f 4, .i 0]), (4, [.d])] (by simp [covers, mpre]) ?_
    repeat first|refine n4 ?_|refine n6 ?_|(refine rg 9 [0, 1, 2, 3, 4, 7, 15, 16, 17] [0, 1, 2, 3, 4, 7, 15, 16, 17] [] ?_;simp (maxSteps := 1000000) [hF, hw])
    refine nextK.of [0, 1, 2, 3, 4, 7, 15, 16, 17] [0, 1, 2, 3, 4, 5] (m - 1) (by omega) (by simp [hF]) ?_
    exact ⟨i + 1, out, D ++ [h.young[i].handle], W.map (clr1 h.young[i].handle), by omega, hos.symm, hds.symm, by rw [hW, clr_step], by simp [dHx, dHb, dJB, dBB, dSB, dSn, dIB]; omega⟩
 ·have hof : out = h.young.filter (fun o : Ob => decide (o.handle ∈ S)) := by rw [hout, List.take_of_length_le (by omega)]
  have hdf : D = ((h.young.filter fun o => !(fun o : Ob => decide (o.handle ∈ S)) o).map (·.handle)) := by rw [hD, List.take_of_length_le (by omega)]
  have hdl : (D.length : Int) = ((h.young.filter fun o => !(fun o : Ob => decide (o.handle ∈ S)) o).length : Nat) := by rw [hdf, List.length_map]
  obtain rfl : i = h.young.length := by omega
  rw [← hof, ← hdf, ← hdl, ← hW]
  repeat first|refine n1 ?_|refine n7 ?_|(refine rg 10 [7] [6] [] ?_;simp (maxSteps := 1000000) [hF])
  (try refine nr ?_);(repeat first|refine nb_ ?_|refine nl_ ?_);refine endK.o [6] [0, 1, 2, 3, 4, 5] [(0, [.d, .f 1, .f 0, .i 0]), (0, [.d, .f 4, .i 0]), (4, [.d])] ?_;simp [hF, retK, covers, mpre, dHx, dJB, dSB, dBB, dIB]
theorem plive_q (h : Hp) (k : Ok h) (minor : Bool) (hfl : h.fins.length ≤ 1000000) (hql : h.queue.length ≤ 1000000) : Meets Try.prog 73 [dHp h] (.cons (.ptr 0 [.d]) (.cons (avBool minor) .nil))
  fun av X κ => ∃ (S1 S2 : List Int) (F : List (Int × Int)) (Q : List Int), Lv h minor (fun x => decide (x ∈ S1)) (fun x => decide (x ∈ S2)) ∧ F = (h.fins.filter fun f => !deadB h minor (fun x => decide (x ∈ S1)) f) ∧ Q = h.queue ++ (h.fins.filter (deadB h minor fun x => decide (x ∈ S1))).map (·.2) ∧
   av = .mp 1 [] ∧ X = [dHp { h with fins := F, queue := Q }, dSn S2] ∧ κ = [(0, [.d])] :=
 Meets.mono (plive_ok h k minor hfl hql) fun av X κ ⟨S1, S2, h1, h2, h3, h4⟩ => ⟨S1, S2, _, _, h1, rfl, rfl, h2, h3, h4⟩

/- (*cabochon/heap.Heap).collect -/
theorem collect_ok (h : Hp) (k : Ok h) (minor : Bool) (hwl : h.weak.length ≤ 1000000) (hfl : h.fins.length ≤ 1000000) (hql : h.queue.length ≤ 1000000) (hag : ∀ o ∈ h.young, o.age ≤ 1000000) : Meets Try.prog 39 [dHp h] (.cons (.ptr 0 [.d]) (.cons (avBool minor) .nil))
  fun av X κ => av = two ((collectE h minor).2, 0) ∧ X = [dHp (collectE h minor).1] ∧ κ = [(0, [.d])] := by
 have hn0 : 0 < h.next := by have := k.next; omega
 obtain ⟨b1, b2, b3, b4⟩ := k.lens
 refine fb Try.func39 Try.ntmps39 [.tmp 4, .tmp 5] fun w0 I0 F0 hF => ?_
 repeat first|refine n1 ?_|((first|refine rg 0 [0, 1] [2, 3] [] ?_|refine rg 1 [2, 3] [2, 3, 14] [] ?_);simp (maxSteps := 1000000) [hF, dHp])
 refine (real_c h hn0).go [(0, [])] (by simp (maxSteps := 1000000) [hF, dHp]) ?_;rintro av X κ ⟨rfl, rfl, rfl⟩;simp (maxSteps := 1000000) [hF, dHp]
 repeat first|refine n1 ?_|refine n2 ?_|((first|refine rg 3 [2, 3] [2, 3, 6] [] ?_|refine nc ?_);simp (maxSteps := 1000000) [hF])
 refine (plive_q h k minor hfl hql).go [(0, [])] (by simp (maxSteps := 1000000) [hF, dHp, dSn]) ?_;rintro av X κ ⟨S1, S2, F, Q, hv, hFf, hQ, rfl, rfl, rfl⟩;simp (maxSteps := 1000000) [hF, dHp, dSn]
 repeat first|refine n1 ?_|((first|refine rg 4 [2, 3, 6] [2, 3, 6, 7] [] ?_|refine rg 5 [2, 3, 6, 7] [2, 7, 8] [] ?_);simp (maxSteps := 1000000) [hF])
 refine VS.widen [(0, [.d])] (by simp [covers, mpre]) ?_
 obtain ⟨KO, hKO⟩ : ∃ KO, KO = h.old.filter fun o : Ob => decide (o.handle ∈ S2) || minor := ⟨_, rfl⟩
 obtain ⟨DO, hDO⟩ : ∃ DO, DO = h.old.filter fun o => !(fun o : Ob => decide (o.handle ∈ S2) || minor) o := ⟨_, rfl⟩
 obtain ⟨KY, hKY⟩ : ∃ KY, KY = h.young.filter fun o : Ob => decide (o.handle ∈ S2) := ⟨_, rfl⟩
 obtain ⟨DY, hDY⟩ : ∃ DY, DY = h.young.filter fun o => !(fun o : Ob => decide (o.handle ∈ S2)) o := ⟨_, rfl⟩
 have kO := keptO_ok { h with fins := F, queue := Q } b1 b2 hwl S2 minor 0 (by decide)
 simp only [← hKO, ← hDO] at kO
 obtain ⟨W1, hW1⟩ : ∃ W1, W1 = h.weak.map (clrS (DO.map (·.handle))) := ⟨_, rfl⟩
 simp only [← hW1] at kO
 have hDOl : DO.length ≤ 1000 := by rw [hDO]; exact Nat.le_trans (List.length_filter_le _ _) b2
 have hDYl : DY.length ≤ 1000 := by rw [hDY]; exact Nat.le_trans (List.length_filter_le _ _) b1
 have kY := keptY_ok { h with fins := F, queue := Q, old := KO, weak := W1 } b1 (by rw [hKO]; exact Nat.le_trans (List.length_filter_le _ _) b2) (by rw [hW1, List.length_map]; exact hwl) S2 minor DO.length ⟨by omega, by omega⟩
 simp only [← hKY, ← hDY] at kY
 obtain ⟨W2, hW2⟩ : ∃ W2, W2 = W1.map (clrS (DY.map (·.handle))) := ⟨_, rfl⟩
 simp only [← hW2] at kY
 have hKOl : KO.length ≤ 1000 := by rw [hKO]; exact Nat.le_trans (List.length_filter_le _ _) b2
 have hKYl : KY.length ≤ 1000 := by rw [hKY]; exact Nat.le_trans (List.length_filter_le _ _) b1
 have hmO := dObs_mid_all true KO
 repeat first|((refine dr 6 0 [2, 7, 8] [2, 7, 8] [] [⟨0, 4, 524288, 6⟩, ⟨0, 256, 1048576, 5⟩, ⟨2, 1048576, 2097152, 0⟩, ⟨1, 524288, 4194304, 5⟩, ⟨8, 4194304, 8388608, 5⟩, ⟨23, 8388608, 16777216, 5⟩, ⟨39, 18874368, 0, 0⟩] (.take 1 (.fork (.alt 0 (.take 3 (.take 4 (.fork (.alt 2 (.take 5 (.fork (.alt 6 (.done) (.nil)))) (.nil))))) (.alt 2 (.take 0 (.take 3 (.take 4 (.take 5 (.fork (.alt 6 (.done) (.nil))))))) (.nil))))) (.run [1] (.both (.run [0, 3, 4, 2, 5, 6] (.done)) (.run [2, 0, 3, 4, 5, 6] (.done)))) ?_;simp only [drs]);simp (maxSteps := 1000000) [hF, dHb])
 apply merged
 ·intro key
  (repeat' with_reducible refine And.intro ?_ ?_)
  all_goals (refine (kO).goP [(0, []), (1, []), (4, []), (2, []), (5, [])] (by simp (maxSteps := 1000000) [hF, plsOk, dHp, dHx, dHb, dJB, dSB, dSn, dBB, dIB, hmO]) ?_;rintro av X κ ⟨rfl, rfl, rfl⟩;simp (maxSteps := 1000000) [hF, dHp, dHx, dHb, dJB, dSB, dSn, dBB, dIB, hmO])
  (repeat' with_reducible refine And.intro ?_ ?_)
  all_goals (refine VS.pick [2, 7, 8] [0, 1, 2, 4, 5] (by simp [hF]) ?_;simp [hF])
  all_goals exact key ()
 refine VS.widen [(0, [.d])] (by simp [covers, mpre]) ?_
 have hKOu : usedN KO ≤ 1000 := by
  have := (keepOld_len h minor fun x => decide (x ∈ S2)).2
  rw [← keepO_eq, ← hKO] at this
  omega
 have hKOr : (usedN KO : Int) ≤ h.ro := by
  have := (keepOld_len h minor fun x => decide (x ∈ S2)).2
  rw [← keepO_eq, ← hKO] at this
  have := k.usedO
  omega
 have hro := k.rooms.2.2
 have hKYm : ∀ o ∈ KY, 0 ≤ o.age ∧ o.age ≤ 1000000 ∧ o.slots.length ≤ 8 := fun o ho => by
  rw [hKY] at ho
  have ho := (List.mem_filter.1 ho).1
  have := k.small o (by simp [obs, ho])
  exact ⟨this.2.2.2.2.1, hag o ho, this.2.2.2.1⟩
 repeat first|refine n1 ?_|(refine rg 7 [2, 7, 8] [2, 7, 8, 9] [] ?_;simp (maxSteps := 1000000) [hF])
 refine VS.hold0 9 3 (by simp) ?_
 repeat first|(refine rg 8 [2, 7, 8, 9] [2, 7, 9, 26, 27, 28] [] ?_;simp (maxSteps := 1000000) [hF])
 refine (kY).goP [(0, []), (1, []), (3, []), (2, []), (4, [])] (by simp (maxSteps := 1000000) [hF, plsOk, dHp, dHx, dHb, dJB, dSB, dSn, dBB, dIB]) ?_;rintro av X κ ⟨rfl, rfl, rfl⟩;simp (maxSteps := 1000000) [hF, dHp, dHx, dHb, dJB, dSB, dSn, dBB, dIB]
 repeat first|refine n3 ?_
 refine VS.pick [2, 7, 9, 26, 27, 28] [0, 1, 4, 5, 6] (by simp [hF]) ?_;simp [hF]
 refine VS.widen [(0, [.d])] (by simp [covers, mpre]) ?_
 refine VS.rounds (fun m st => ∃ (i : Nat) (OC ST : List Ob), i + m = KY.length ∧ promo h.ro KY KO [] = promo h.ro (KY.drop i) OC ST ∧ OC.length ≤ 1000 + i ∧ (usedN OC : Int) ≤ h.ro ∧ ST.length ≤ i ∧
  st = ⟨[(2, .ptr 1 [.d]), (7, .ptr 2 [.d]), (9, .sub 3 [] 0 ST.length false), (26, .sub 4 [] 0 KY.length false), (27, avInt KY.length), (28, avInt i)],
   [dHx (.sl true () 3 (dObsJ h.young.length h.young)) (.sl true () 3 (dObs true OC)) { h with fins := F, queue := Q, weak := W2 }, dJB, dIB (DO.length + DY.length), .sl true () 3 (dObs true ST), .sl true () 3 (dObsJ i KY)], [(0, [.d])], [(1, [.d], .ptr 0 [.d])]⟩)
  ⟨KY.length, 0, KO, [], by omega, by simp, by omega, hKOr, by simp, by simp [dHx, dJB, dIB, dObsJ_zero]⟩ ?_
 rintro m st ⟨i, OC, ST, hi, hpr, hOl, hOu, hSl, rfl⟩
 repeat first|refine n1 ?_|((first|refine rg 9 [2, 7, 9, 26, 27, 28] [2, 7, 9, 26, 27, 28, 29] [] ?_|refine nc ?_);simp (maxSteps := 1000000) [hF])
 refine ⟨fun hlt => ?_, fun hge => ?_⟩
 ·have hn0' := dObsJ_nth hlt
  have hn1 := dObsJ_nth1 hlt
  have hst := dObsJ_step hlt
  obtain ⟨ha0, ha1, ha2⟩ := hKYm _ (List.getElem_mem hlt)
  have hw : IntKind.i64.wrap ((i : Int) + 1) = (i + 1 : Nat) := by rw [IntWalk.i64_in _ (by omega)]; rfl
  have hwa : IntKind.i64.wrap (KY[i].age + 1) = KY[i].age + 1 := IntWalk.i64_in _ (by omega)
  have hwu : IntKind.i64.wrap ((usedN OC : Int) + KY[i].slots.length) = (usedN OC : Int) + KY[i].slots.length := IntWalk.i64_in _ (by omega)
  have hdr : KY.drop i = KY[i] :: KY.drop (i + 1) := List.drop_eq_getElem_cons hlt
  have hsm := dInts_mid KY[i].slots
  have hOC : OC.length ≤ 100000 := by omega
  have hUC : usedN OC ≤ 100000 := by omega
  refine ghostL 4 [.i i, .f 2] ?_;simp (maxSteps := 1000000) [hF, St.lift, AV.lift, liftPl, stripP, nodeAV, isNode, hn0', hlt, hst]
  by_cases h2 : 2 ≤ KY[i].age + 1
  ·by_cases hr : (usedN OC : Int) + KY[i].slots.length ≤ h.ro
   ·have hpr2 : promo h.ro KY KO [] = promo h.ro (KY.drop (i + 1)) (OC ++ [⟨KY[i].handle, KY[i].age + 1, KY[i].slots⟩]) ST := by rw [hpr, hdr, promo, if_pos ⟨h2, hr⟩]
    have hp := dObs_push true OC KY[i].handle (KY[i].age + 1) KY[i].slots
    have hm1 := dObs_mid1 true OC ⟨KY[i].handle, KY[i].age + 1, KY[i].slots⟩
    have c1 : (OC.length + 1) * 40 ≤ 140737488355328 := by omega
    have c2 : OC.length ≤ 9223372036854775806 := by omega
    repeat first|refine n1 ?_|refine n2 ?_|refine n3 ?_|((first|refine rg 10 [2, 7, 9, 26, 27, 28] [2, 7, 9, 11, 26, 27, 28] [] ?_|refine rg 11 [2, 7, 9, 11, 26, 27, 28] [2, 7, 9, 11, 26, 27, 28] [] ?_|(refine dr 12 0 [2, 7, 9, 11, 26, 27, 28] [2, 7, 9, 11, 26, 27, 28, 56] [(3, 39)] [⟨0, 2048, 68719476736, 5⟩, ⟨1, 68719476736, 137438953472, 6⟩, ⟨2, 137438953472, 274877906944, 5⟩, ⟨4, 274877906944, 549755813888, 5⟩, ⟨8, 549755813892, 1099511627776, 6⟩, ⟨24, 1649267441664, 2199023255552, 5⟩, ⟨40, 2748779069440, 4398046511104, 5⟩, ⟨72, 4947802324992, 8796093022208, 5⟩, ⟨136, 9345848836096, 17592186044416, 6⟩, ⟨264, 18141941858304, 35184372088832, 0⟩, ⟨8, 549755815936, 70368744177664, 5⟩, ⟨1032, 70918499991552, 140737488355328, 6⟩, ⟨2056, 141287244169216, 281474976710656, 5⟩, ⟨4616, 317209104613376, 562949953421312, 5⟩, ⟨8, 549755813892, 1125899906842624, 6⟩, ⟨16392, 1126449662656512, 2251799813685248, 5⟩, ⟨32776, 2252349569499136, 4503599627370496, 5⟩, ⟨65544, 4504149383184384, 9007199254740992, 5⟩, ⟨131080, 9007749010554880, 18014398509481984, 6⟩, ⟨270344, 18577898218717184, 36028797018963968, 5⟩, ⟨524296, 36029346774777856, 72057594037927936, 5⟩] (.take 0 (.take 1 (.take 2 (.take 3 (.take 4 (.take 5 (.take 6 (.take 7 (.take 8 (.take 10 (.fork (.alt 9 (.take 11 (.take 12 (.take 13 (.take 14 (.take 15 (.take 16 (.take 17 (.take 18 (.take 19 (.take 20 (.done))))))))))) (.alt 11 (.take 12 (.fork (.alt 9 (.take 13 (.take 14 (.take 15 (.take 16 (.take 17 (.take 18 (.take 19 (.take 20 (.done))))))))) (.alt 14 (.take 15 (.take 16 (.take 17 (.fork (.alt 9 (.take 13 (.take 18 (.take 19 (.take 20 (.done))))) (.alt 18 (.fork (.alt 9 (.take 13 (.take 19 (.take 20 (.done)))) (.nil))) (.nil))))))) (.nil))))) (.alt 14 (.take 15 (.take 16 (.take 17 (.fork (.alt 9 (.take 11 (.take 12 (.take 13 (.take 18 (.take 19 (.take 20 (.done))))))) (.alt 11 (.take 12 (.fork (.alt 9 (.take 13 (.take 18 (.take 19 (.take 20 (.done))))) (.alt 18 (.fork (.alt 9 (.take 13 (.take 19 (.take 20 (.done)))) (.nil))) (.nil))))) (.alt 18 (.fork (.alt 9 (.take 11 (.take 12 (.take 13 (.take 19 (.take 20 (.done)))))) (.alt 11 (.take 12 (.fork (.alt 9 (.take 13 (.take 19 (.take 20 (.done)))) (.nil)))) (.nil)))) (.nil)))))))) (.nil))))))))))))))) (.run [0, 1, 2, 3, 4, 5, 6, 7, 8, 10] (.both (.run [9, 11, 12, 13, 14, 15, 16, 17, 18, 19, 20] (.done)) (.both (.run [11, 12] (.both (.run [9, 13, 14, 15, 16, 17, 18, 19, 20] (.done)) (.run [14, 15, 16, 17] (.both (.run [9, 13, 18, 19, 20] (.done)) (.run [18, 9, 13, 19, 20] (.done)))))) (.run [14, 15, 16, 17] (.both (.run [9, 11, 12, 13, 18, 19, 20] (.done)) (.both (.run [11, 12] (.both (.run [9, 13, 18, 19, 20] (.done)) (.run [18, 9, 13, 19, 20] (.done)))) (.run [18] (.both (.run [9, 11, 12, 13, 19, 20] (.done)) (.run [11, 12, 9, 13, 19, 20] (.done)))))))))) ?_;simp only [drs]));simp (maxSteps := 1000000) [hF, hn1, hlt, hwa, h2, dHx, dJB])
    apply merged
    ·intro key
     (repeat' with_reducible refine And.intro ?_ ?_)
     all_goals (refine (used_c OC false hOC hUC).go [(0, [.d, .f 1, .f 1])] (by simp (maxSteps := 1000000) [hF, hwu, hr]) ?_;rintro av X κ ⟨rfl, rfl, rfl⟩;simp (maxSteps := 1000000) [hF, hwu, hr])
     (repeat' with_reducible refine And.intro ?_ ?_)
     all_goals (refine VS.pick [2, 7, 9, 11, 26, 27, 28, 56] [0, 1, 2, 3, 4, 6] (by simp [hF]) ?_;simp [hF])
     all_goals exact key ()
    refine ghostL 5 [.d, .f 2] ?_;simp (maxSteps := 1000000) [hF, St.lift, AV.lift, liftPl, stripP, nodeAV, isNode]
    refine ghostL 0 [.d, .f 1, .f 1] ?_;simp (maxSteps := 1000000) [hF, St.lift, AV.lift, liftPl, stripP, nodeAV, isNode]
    repeat first|refine n4 ?_|refine n5 ?_|((first|(refine dr 13 0 [2, 7, 9, 11, 26, 27, 28] [2, 7, 9, 26, 27, 28] [] [⟨0, 4, 144115188075855872, 6⟩, ⟨0, 4, 288230376151711744, 6⟩, ⟨2, 288230376151711744, 576460752303423488, 5⟩, ⟨4, 576460752303423488, 1152921504606846976, 5⟩, ⟨8, 1152921504606846976, 2305843009213693952, 5⟩, ⟨16, 2305843009213693952, 4611686018427387904, 6⟩, ⟨0, 2048, 9223372036854775808, 6⟩, ⟨64, 9223372036854775808, 18446744073709551616, 4⟩, ⟨160, 23058430092136939520, 36893488147419103232, 0⟩, ⟨1, 144115188075855872, 73786976294838206464, 5⟩, ⟨512, 73786976294838206464, 147573952589676412928, 5⟩, ⟨1535, 147573952589676412928, 295147905179352825856, 5⟩, ⟨2559, 332041393326771929088, 0, 0⟩] (.take 1 (.take 2 (.take 3 (.take 4 (.take 5 (.take 6 (.fork (.alt 0 (.take 9 (.take 10 (.fork (.alt 7 (.fork (.alt 8 (.take 11 (.fork (.alt 12 (.done) (.nil)))) (.nil))) (.nil))))) (.alt 7 (.fork (.alt 0 (.take 9 (.take 10 (.fork (.alt 8 (.take 11 (.fork (.alt 12 (.done) (.nil)))) (.nil))))) (.alt 8 (.take 0 (.take 9 (.take 10 (.take 11 (.fork (.alt 12 (.done) (.nil))))))) (.nil)))) (.nil)))))))))) (.run [1, 2, 3, 4, 5, 6] (.both (.run [0, 9, 10, 7, 8, 11, 12] (.done)) (.run [7] (.both (.run [0, 9, 10, 8, 11, 12] (.done)) (.run [8, 0, 9, 10, 11, 12] (.done)))))) ?_;simp only [drs])|refine nc ?_);simp (maxSteps := 1000000) [hF, hp, hm1, hsm, c1, c2])
    refine VS.widen [(0, [.d])] (by simp [covers, mpre]) ?_
    repeat first|refine n4 ?_|refine n6 ?_|(refine rg 15 [2, 7, 9, 26, 27, 28] [2, 7, 9, 26, 27, 28] [] ?_;simp (maxSteps := 1000000) [hF, hw])
    refine nextK.of [2, 7, 9, 26, 27, 28] [0, 1, 2, 3, 4] (m - 1) (by omega) (by simp [hF]) ?_
    exact ⟨i + 1, _, ST, by omega, hpr2, by simp; omega, by rw [usedN_app, usedN_one]; simp only []; omega, by omega, by simp [dHx, dJB, dIB]⟩
   ·have hpr2 : promo h.ro KY KO [] = promo h.ro (KY.drop (i + 1)) OC (ST ++ [⟨KY[i].handle, KY[i].age + 1, KY[i].slots⟩]) := by rw [hpr, hdr, promo, if_neg (fun e => hr e.2)]
    have hp := dObs_push true ST KY[i].handle (KY[i].age + 1) KY[i].slots
    have hm1 := dObs_mid1 true ST ⟨KY[i].handle, KY[i].age + 1, KY[i].slots⟩
    have c1 : (ST.length + 1) * 40 ≤ 140737488355328 := by omega
    have c2 : ST.length ≤ 9223372036854775806 := by omega
    repeat first|refine n1 ?_|refine n2 ?_|refine n3 ?_|((first|refine rg 10 [2, 7, 9, 26, 27, 28] [2, 7, 9, 11, 26, 27, 28] [] ?_|refine rg 11 [2, 7, 9, 11, 26, 27, 28] [2, 7, 9, 11, 26, 27, 28] [] ?_|(refine dr 12 0 [2, 7, 9, 11, 26, 27, 28] [2, 7, 9, 11, 26, 27, 28, 56] [(3, 39)] [⟨0, 2048, 68719476736, 5⟩, ⟨1, 68719476736, 137438953472, 6⟩, ⟨2, 137438953472, 274877906944, 5⟩, ⟨4, 274877906944, 549755813888, 5⟩, ⟨8, 549755813892, 1099511627776, 6⟩, ⟨24, 1649267441664, 2199023255552, 5⟩, ⟨40, 2748779069440, 4398046511104, 5⟩, ⟨72, 4947802324992, 8796093022208, 5⟩, ⟨136, 9345848836096, 17592186044416, 6⟩, ⟨264, 18141941858304, 35184372088832, 0⟩, ⟨8, 549755815936, 70368744177664, 5⟩, ⟨1032, 70918499991552, 140737488355328, 6⟩, ⟨2056, 141287244169216, 281474976710656, 5⟩, ⟨4616, 317209104613376, 562949953421312, 5⟩, ⟨8, 549755813892, 1125899906842624, 6⟩, ⟨16392, 1126449662656512, 2251799813685248, 5⟩, ⟨32776, 2252349569499136, 4503599627370496, 5⟩, ⟨65544, 4504149383184384, 9007199254740992, 5⟩, ⟨131080, 9007749010554880, 18014398509481984, 6⟩, ⟨270344, 18577898218717184, 36028797018963968, 5⟩, ⟨524296, 36029346774777856, 72057594037927936, 5⟩] (.take 0 (.take 1 (.take 2 (.take 3 (.take 4 (.take 5 (.take 6 (.take 7 (.take 8 (.take 10 (.fork (.alt 9 (.take 11 (.take 12 (.take 13 (.take 14 (.take 15 (.take 16 (.take 17 (.take 18 (.take 19 (.take 20 (.done))))))))))) (.alt 11 (.take 12 (.fork (.alt 9 (.take 13 (.take 14 (.take 15 (.take 16 (.take 17 (.take 18 (.take 19 (.take 20 (.done))))))))) (.alt 14 (.take 15 (.take 16 (.take 17 (.fork (.alt 9 (.take 13 (.take 18 (.take 19 (.take 20 (.done))))) (.alt 18 (.fork (.alt 9 (.take 13 (.take 19 (.take 20 (.done)))) (.nil))) (.nil))))))) (.nil))))) (.alt 14 (.take 15 (.take 16 (.take 17 (.fork (.alt 9 (.take 11 (.take 12 (.take 13 (.take 18 (.take 19 (.take 20 (.done))))))) (.alt 11 (.take 12 (.fork (.alt 9 (.take 13 (.take 18 (.take 19 (.take 20 (.done))))) (.alt 18 (.fork (.alt 9 (.take 13 (.take 19 (.take 20 (.done)))) (.nil))) (.nil))))) (.alt 18 (.fork (.alt 9 (.take 11 (.take 12 (.take 13 (.take 19 (.take 20 (.done)))))) (.alt 11 (.take 12 (.fork (.alt 9 (.take 13 (.take 19 (.take 20 (.done)))) (.nil)))) (.nil)))) (.nil)))))))) (.nil))))))))))))))) (.run [0, 1, 2, 3, 4, 5, 6, 7, 8, 10] (.both (.run [9, 11, 12, 13, 14, 15, 16, 17, 18, 19, 20] (.done)) (.both (.run [11, 12] (.both (.run [9, 13, 14, 15, 16, 17, 18, 19, 20] (.done)) (.run [14, 15, 16, 17] (.both (.run [9, 13, 18, 19, 20] (.done)) (.run [18, 9, 13, 19, 20] (.done)))))) (.run [14, 15, 16, 17] (.both (.run [9, 11, 12, 13, 18, 19, 20] (.done)) (.both (.run [11, 12] (.both (.run [9, 13, 18, 19, 20] (.done)) (.run [18, 9, 13, 19, 20] (.done)))) (.run [18] (.both (.run [9, 11, 12, 13, 19, 20] (.done)) (.run [11, 12, 9, 13, 19, 20] (.done)))))))))) ?_;simp only [drs]));simp (maxSteps := 1000000) [hF, hn1, hlt, hwa, h2, dHx, dJB])
    apply merged
    ·intro key
     (repeat' with_reducible refine And.intro ?_ ?_)
     all_goals (refine (used_c OC false hOC hUC).go [(0, [.d, .f 1, .f 1])] (by simp (maxSteps := 1000000) [hF, hwu, hr]) ?_;rintro av X κ ⟨rfl, rfl, rfl⟩;simp (maxSteps := 1000000) [hF, hwu, hr])
     (repeat' with_reducible refine And.intro ?_ ?_)
     all_goals (refine VS.pick [2, 7, 9, 11, 26, 27, 28, 56] [0, 1, 2, 3, 4, 6] (by simp [hF]) ?_;simp [hF])
     all_goals exact key ()
    refine ghostL 5 [.d, .f 2] ?_;simp (maxSteps := 1000000) [hF, St.lift, AV.lift, liftPl, stripP, nodeAV, isNode]
    repeat first|refine n4 ?_|refine n5 ?_|refine n6 ?_|((first|refine rg 14 [2, 7, 9, 11, 26, 27, 28] [2, 7, 9, 26, 27, 28] [] ?_|refine rg 15 [2, 7, 9, 26, 27, 28] [2, 7, 9, 26, 27, 28] [] ?_|refine nc ?_);simp (maxSteps := 1000000) [hF, hp, hm1, hsm, c1, c2, hw])
    refine nextK.of [2, 7, 9, 26, 27, 28] [0, 1, 2, 3, 4] (m - 1) (by omega) (by simp [hF]) ?_
    exact ⟨i + 1, OC, _, by omega, hpr2, by omega, hOu, by simp; omega, by simp [dHx, dJB, dIB]⟩
  ·have hpr2 : promo h.ro KY KO [] = promo h.ro (KY.drop (i + 1)) OC (ST ++ [⟨KY[i].handle, KY[i].age + 1, KY[i].slots⟩]) := by rw [hpr, hdr, promo, if_neg (fun e => h2 e.1)]
   have hp := dObs_push true ST KY[i].handle (KY[i].age + 1) KY[i].slots
   have hm1 := dObs_mid1 true ST ⟨KY[i].handle, KY[i].age + 1, KY[i].slots⟩
   have c1 : (ST.length + 1) * 40 ≤ 140737488355328 := by omega
   have c2 : ST.length ≤ 9223372036854775806 := by omega
   repeat first|refine n1 ?_|refine n2 ?_|refine n3 ?_|((first|refine rg 10 [2, 7, 9, 26, 27, 28] [2, 7, 9, 11, 26, 27, 28] [] ?_|refine rg 11 [2, 7, 9, 11, 26, 27, 28] [2, 7, 9, 11, 26, 27, 28] [] ?_|(refine dr 12 0 [2, 7, 9, 11, 26, 27, 28] [2, 7, 9, 11, 26, 27, 28, 56] [(3, 39)] [⟨0, 2048, 68719476736, 5⟩, ⟨1, 68719476736, 137438953472, 6⟩, ⟨2, 137438953472, 274877906944, 5⟩, ⟨4, 274877906944, 549755813888, 5⟩, ⟨8, 549755813892, 1099511627776, 6⟩, ⟨24, 1649267441664, 2199023255552, 5⟩, ⟨40, 2748779069440, 4398046511104, 5⟩, ⟨72, 4947802324992, 8796093022208, 5⟩, ⟨136, 9345848836096, 17592186044416, 6⟩, ⟨264, 18141941858304, 35184372088832, 0⟩, ⟨8, 549755815936, 70368744177664, 5⟩, ⟨1032, 70918499991552, 140737488355328, 6⟩, ⟨2056, 141287244169216, 281474976710656, 5⟩, ⟨4616, 317209104613376, 562949953421312, 5⟩, ⟨8, 549755813892, 1125899906842624, 6⟩, ⟨16392, 1126449662656512, 2251799813685248, 5⟩, ⟨32776, 2252349569499136, 4503599627370496, 5⟩, ⟨65544, 4504149383184384, 9007199254740992, 5⟩, ⟨131080, 9007749010554880, 18014398509481984, 6⟩, ⟨270344, 18577898218717184, 36028797018963968, 5⟩, ⟨524296, 36029346774777856, 72057594037927936, 5⟩] (.take 0 (.take 1 (.take 2 (.take 3 (.take 4 (.take 5 (.take 6 (.take 7 (.take 8 (.take 10 (.fork (.alt 9 (.take 11 (.take 12 (.take 13 (.take 14 (.take 15 (.take 16 (.take 17 (.take 18 (.take 19 (.take 20 (.done))))))))))) (.alt 11 (.take 12 (.fork (.alt 9 (.take 13 (.take 14 (.take 15 (.take 16 (.take 17 (.take 18 (.take 19 (.take 20 (.done))))))))) (.alt 14 (.take 15 (.take 16 (.take 17 (.fork (.alt 9 (.take 13 (.take 18 (.take 19 (.take 20 (.done))))) (.alt 18 (.fork (.alt 9 (.take 13 (.take 19 (.take 20 (.done)))) (.nil))) (.nil))))))) (.nil))))) (.alt 14 (.take 15 (.take 16 (.take 17 (.fork (.alt 9 (.take 11 (.take 12 (.take 13 (.take 18 (.take 19 (.take 20 (.done))))))) (.alt 11 (.take 12 (.fork (.alt 9 (.take 13 (.take 18 (.take 19 (.take 20 (.done))))) (.alt 18 (.fork (.alt 9 (.take 13 (.take 19 (.take 20 (.done)))) (.nil))) (.nil))))) (.alt 18 (.fork (.alt 9 (.take 11 (.take 12 (.take 13 (.take 19 (.take 20 (.done)))))) (.alt 11 (.take 12 (.fork (.alt 9 (.take 13 (.take 19 (.take 20 (.done)))) (.nil)))) (.nil)))) (.nil)))))))) (.nil))))))))))))))) (.run [0, 1, 2, 3, 4, 5, 6, 7, 8, 10] (.both (.run [9, 11, 12, 13, 14, 15, 16, 17, 18, 19, 20] (.done)) (.both (.run [11, 12] (.both (.run [9, 13, 14, 15, 16, 17, 18, 19, 20] (.done)) (.run [14, 15, 16, 17] (.both (.run [9, 13, 18, 19, 20] (.done)) (.run [18, 9, 13, 19, 20] (.done)))))) (.run [14, 15, 16, 17] (.both (.run [9, 11, 12, 13, 18, 19, 20] (.done)) (.both (.run [11, 12] (.both (.run [9, 13, 18, 19, 20] (.done)) (.run [18, 9, 13, 19, 20] (.done)))) (.run [18] (.both (.run [9, 11, 12, 13, 19, 20] (.done)) (.run [11, 12, 9, 13, 19, 20] (.done)))))))))) ?_;simp only [drs])|refine nc ?_);simp (maxSteps := 1000000) [hF, hn1, hlt, hwa, h2, dHx, dJB])
   refine ghostL 6 [.d, .f 2] ?_;simp (maxSteps := 1000000) [hF, St.lift, AV.lift, liftPl, stripP, nodeAV, isNode]
   repeat first|refine n4 ?_|refine n5 ?_|refine n6 ?_|((first|refine rg 14 [2, 7, 9, 11, 26, 27, 28] [2, 7, 9, 26, 27, 28] [] ?_|refine rg 15 [2, 7, 9, 26, 27, 28] [2, 7, 9, 26, 27, 28] [] ?_);simp (maxSteps := 1000000) [hF, hp, hm1, hsm, c1, c2, hw])
   refine nextK.of [2, 7, 9, 26, 27, 28] [0, 1, 2, 3, 4] (m - 1) (by omega) (by simp [hF]) ?_
   exact ⟨i + 1, OC, _, by omega, hpr2, by omega, hOu, by simp; omega, by simp [dHx, dJB, dIB]⟩
 ·have hdn : KY.drop i = [] := List.drop_of_length_le (by omega)
  rw [hdn, promo] at hpr
  have hms := dObs_mid_all true ST
  repeat first|refine n1 ?_|refine n7 ?_|((first|refine rg 16 [2, 7, 9] [7] [] ?_|refine rg 17 [7] [4, 5] [] ?_);simp (maxSteps := 1000000) [hF, dHx, dJB, dIB, hms])
  have hx : (collectE h minor).1 = { ry := h.ry, ro := h.ro, young := ST, old := OC, next := h.next, roots := h.roots, weak := W2, fins := F, queue := Q } := by
   rw [← collect_E k hv, collectBy, ← keepO_eq, ← hKO, keepYoung, ← hKY, hpr, ← hFf, ← hQ, hW2, hW1, hDO, hDY, clr_gone k.dist]
  have hy : (collectE h minor).2 = (DO.length : Int) + DY.length := by
   rw [← collect_E k hv, collectBy, hDO, hDY, gone_count]
  refine VS.widen [(0, [.d])] (by simp [covers, mpre]) ?_
  (try refine nr ?_);(repeat first|refine nb_ ?_|refine nl_ ?_);refine endK.o [4, 5] [0] [(0, [.d])] ?_;simp [hF, retK, covers, mpre, hx, hy, dHx, dHp, dHb]
def hasN (l : List Int) (v : Int) : Bool := l.any fun x => decide (x = v)
theorem hasN_iff {l : List Int} {v : Int} : hasN l v = true ↔ v ∈ l := by simp [hasN]

/- (*cabochon/cabochonref27.Heap).No -/
theorem no_ok (h : Hp) : Meets Try.prog 50 [] (.cons (avE h) .nil) fun av X κ => av = avBool false ∧ X = [] ∧ κ = [] := by
 refine fb Try.func50 Try.ntmps50 [.tmp 2] fun w0 I0 F0 hF => ?_
 repeat first|refine n1 ?_|((first|refine rg 0 [0] [0] [] ?_|refine rg 1 [0] [2] [(2, 5)] ?_);simp (maxSteps := 1000000) [hF, eHb])
 (try refine nr ?_);(repeat first|refine nb_ ?_|refine nl_ ?_);refine endK.o [2] [] [] ?_;simp [hF, retK, covers, mpre]

/- cabochon/cabochonref27.index -/
theorem eindex_ok (ex : Bool) (l : List Ob) (x : Int) (hl : l.length ≤ 100000000) : Meets Try.prog 82 [] (.cons (.imm 3 (dObs false l) ex) (.cons (avInt x) .nil)) fun av X κ => av = avInt (ixO l x) ∧ X = [] ∧ κ = [] := by
 refine fb Try.func82 Try.ntmps82 [.tmp 4] fun w0 I0 F0 hF => ?_
 repeat first|refine n1 ?_|refine n3 ?_|((first|refine rg 0 [0, 1] [0, 1] [] ?_|refine rg 1 [0, 1] [0, 1, 5] [] ?_);simp (maxSteps := 1000000) [hF])
 refine VS.rounds (fun m st => ∃ (i : Nat), i + m = l.length ∧ (∀ j, (h : j < l.length) → j < i → decide (l[j].handle = x) = false) ∧ st = ⟨[(0, .imm 3 (dObs false l) ex), (1, avInt x), (5, avInt i)], [], [], []⟩) ⟨l.length, 0, by omega, by omega, by simp⟩ ?_
 rintro m st ⟨i, hi, hall, rfl⟩
 repeat first|refine n1 ?_|((first|refine rg 2 [0, 1, 5] [0, 1, 5, 9] [] ?_|refine nc ?_);simp (maxSteps := 1000000) [hF])
 refine ⟨fun hlt => ?_, fun hge => ?_⟩
 ·have hi' : i < l.length := by omega
  have hn := dObs_nth (o := false) hi'
  have hw : IntKind.i64.wrap ((i : Int) + 1) = (i + 1 : Nat) := by rw [IntWalk.i64_in _ (by omega)]; rfl
  by_cases hp : l[i].handle = x
  ·have hr : ixO l x = i := ixF_hit hi' (fun j h => hall j (by omega) h) (by simpa using hp)
   repeat first|refine n1 ?_|refine n2 ?_|refine n3 ?_|((first|refine rg 4 [0, 1, 5] [0, 1, 5, 18] [] ?_|refine rg 5 [5] [4] [] ?_|refine nc ?_);simp (maxSteps := 1000000) [hF, hn, hi', hp])
   (try refine nr ?_);(repeat first|refine nb_ ?_|refine nl_ ?_);refine endK.o [4] [] [] ?_;simp [hF, retK, covers, mpre, hr]
  ·repeat first|refine n1 ?_|refine n2 ?_|refine n3 ?_|refine n4 ?_|refine n5 ?_|refine n6 ?_|((first|refine rg 3 [0, 1, 5] [0, 1, 5] [] ?_|refine rg 4 [0, 1, 5] [0, 1, 5, 18] [] ?_|refine nc ?_);simp (maxSteps := 1000000) [hF, hn, hi', hp, hw])
   refine nextK.of [0, 1, 5] [] (m - 1) (by omega) (by simp [hF]) ?_
   refine ⟨i + 1, by omega, ?_, by simp⟩
   intro j hj hji
   rcases Nat.lt_or_ge j i with h' | h'
   ·exact hall j hj h'
   ·obtain rfl : j = i := by omega
    simpa using hp
 ·have hr : ixO l x = -1 := ixF_miss (fun j h => hall j h (by omega))
  repeat first|refine n1 ?_|refine n7 ?_|(refine rg 6 [] [4] [] ?_;simp (maxSteps := 1000000) [hF])
  (try refine nr ?_);(repeat first|refine nb_ ?_|refine nl_ ?_);refine endK.o [4] [] [] ?_;simp [hF, retK, covers, mpre, hr]

/- (*cabochon/cabochonref27.Heap).there -/
theorem ethere_ok (h : Hp) (k : Ok h) (x : Int) : Meets Try.prog 91 [] (.cons (avE h) (.cons (avInt x) .nil)) fun av X κ => av = avBool (there h x) ∧ X = [] ∧ κ = [] := by
 obtain ⟨b1, b2, b3, b4⟩ := k.lens
 refine fb Try.func91 Try.ntmps91 [.tmp 4] fun w0 I0 F0 hF => ?_
 repeat first|refine n1 ?_|((first|refine rg 0 [0, 1] [0, 1] [] ?_|refine rg 1 [0, 1] [4] [(7, 12)] ?_);simp (maxSteps := 1000000) [hF, eHb])
 cases hy : inL h.young x with
 | true =>
  obtain ⟨i, hi, hix, _⟩ := inL_at hy
  have hc : there h x = true := by simp [there, hy]
  refine (eindex_ok false h.young x (by omega)).go [] (by simp (maxSteps := 1000000) [hF, hix]) ?_;rintro av X κ ⟨rfl, rfl, rfl⟩;simp (maxSteps := 1000000) [hF, hix]
  (try refine nr ?_);(repeat first|refine nb_ ?_|refine nl_ ?_);refine endK.o [4] [] [] ?_;simp [hF, retK, covers, mpre, hc]
 | false =>
  have hix := ixO_none hy
  refine (eindex_ok false h.young x (by omega)).go [] (by simp (maxSteps := 1000000) [hF, hix, eHb]) ?_;rintro av X κ ⟨rfl, rfl, rfl⟩;simp (maxSteps := 1000000) [hF, hix, eHb]
  cases ho : inL h.old x with
  | true =>
   obtain ⟨i, hi, hiy, _⟩ := inL_at ho
   have hc : there h x = true := by simp [there, hy, ho]
   refine (eindex_ok false h.old x (by omega)).go [] (by simp (maxSteps := 1000000) [hF, hiy]) ?_;rintro av X κ ⟨rfl, rfl, rfl⟩;simp (maxSteps := 1000000) [hF, hiy]
   (try refine nr ?_);(repeat first|refine nb_ ?_|refine nl_ ?_);refine endK.o [4] [] [] ?_;simp [hF, retK, covers, mpre, hc]
  | false =>
   have hiy := ixO_none ho
   have hc : there h x = false := by simp [there, hy, ho]
   refine (eindex_ok false h.old x (by omega)).go [] (by simp (maxSteps := 1000000) [hF, hiy]) ?_;rintro av X κ ⟨rfl, rfl, rfl⟩;simp (maxSteps := 1000000) [hF, hiy]
   (try refine nr ?_);(repeat first|refine nb_ ?_|refine nl_ ?_);refine endK.o [4] [] [] ?_;simp [hF, retK, covers, mpre, hc]
/- (*cabochon/cabochonref27.Heap).slots -/
theorem eslots_ok (h : Hp) (k : Ok h) (x : Int) (hx : there h x = true) : Meets Try.prog 83 [] (.cons (avE h) (.cons (avInt x) .nil)) fun av X κ => av = .imm 1 (dInts (slotsOf h x)) false ∧ X = [] ∧ κ = [] := by
 obtain ⟨b1, b2, b3, b4⟩ := k.lens
 refine fb Try.func83 Try.ntmps83 [.tmp 4] fun w0 I0 F0 hF => ?_
 repeat first|refine n1 ?_|((first|refine rg 0 [0, 1] [0, 1] [] ?_|refine rg 1 [0, 1] [0, 1, 5] [] ?_);simp (maxSteps := 1000000) [hF, eHb])
 cases hy : inL h.young x with
 | true =>
  obtain ⟨i, hi, hix, hh, hsl, _⟩ := inL_at hy
  have hn := dObs_nth (o := false) hi
  have hc := (slotsOf_y hy).trans hsl
  refine (eindex_ok false h.young x (by omega)).go [] (by simp (maxSteps := 1000000) [hF, hix]) ?_;rintro av X κ ⟨rfl, rfl, rfl⟩;simp (maxSteps := 1000000) [hF, hix]
  repeat first|refine n1 ?_|((first|refine rg 2 [0, 1, 5] [0, 1, 5, 13] [] ?_|refine rg 3 [0, 5] [4] [] ?_|refine nc ?_);simp (maxSteps := 1000000) [hF, hn, hi, eHb])
  (try refine nr ?_);(repeat first|refine nb_ ?_|refine nl_ ?_);refine endK.o [4] [] [] ?_;simp [hF, retK, covers, mpre, hc]
 | false =>
  have hix := ixO_none hy
  have ho : inL h.old x = true := by simpa [there, hy] using hx
  obtain ⟨i, hi, hiy, hh, hsl, _⟩ := inL_at ho
  have hn := dObs_nth (o := false) hi
  have hc := (slotsOf_o hy).trans hsl
  refine (eindex_ok false h.young x (by omega)).go [] (by simp (maxSteps := 1000000) [hF, hix]) ?_;rintro av X κ ⟨rfl, rfl, rfl⟩;simp (maxSteps := 1000000) [hF, hix]
  repeat first|refine n1 ?_|refine n2 ?_|((first|refine rg 2 [0, 1, 5] [0, 1, 5, 13] [] ?_|(refine dr 4 512 [0, 1] [4] [] [⟨0, 1, 4194304, 5⟩, ⟨1, 4194304, 8388608, 5⟩, ⟨2, 8388608, 16777216, 5⟩, ⟨4, 16777216, 33554432, 6⟩, ⟨0, 1, 67108864, 5⟩, ⟨16, 67108864, 134217728, 5⟩, ⟨32, 134217728, 268435456, 5⟩, ⟨64, 268435456, 536870912, 6⟩, ⟨0, 2, 1073741824, 5⟩, ⟨384, 1610612736, 2147483648, 0⟩, ⟨520, 2181038080, 4294967296, 5⟩, ⟨1024, 4294967296, 8589934592, 5⟩, ⟨2048, 8589934592, 17179869184, 6⟩, ⟨8191, 17179869184, 16, 5⟩] (.take 0 (.take 1 (.take 2 (.take 3 (.take 4 (.take 5 (.take 6 (.take 7 (.take 8 (.fork (.alt 9 (.take 10 (.take 11 (.take 12 (.take 13 (.done))))) (.nil)))))))))))) (.run [0, 1, 2, 3, 4, 5, 6, 7, 8] (.chk 9 (.run [9, 10, 11, 12, 13] (.done)))) ?_;simp only [drs])|refine nc ?_);simp (maxSteps := 1000000) [hF, eHb])
  refine (eindex_ok false h.old x (by omega)).go [] (by simp (maxSteps := 1000000) [hF, hiy, hn, hi]) ?_;rintro av X κ ⟨rfl, rfl, rfl⟩;simp (maxSteps := 1000000) [hF, hiy, hn, hi]
  (try refine nr ?_);(repeat first|refine nb_ ?_|refine nl_ ?_);refine endK.o [4] [] [] ?_;simp [hF, retK, covers, mpre, hc]
/- cabochon/cabochonref27.has -/
theorem ehas_ok (ex : Bool) (l : List Int) (v : Int) (hl : l.length ≤ 100000000) : Meets Try.prog 81 [] (.cons (.imm 1 (dInts l) ex) (.cons (avInt v) .nil)) fun av X κ => av = avBool (hasN l v) ∧ X = [] ∧ κ = [] := by
 refine fb Try.func81 Try.ntmps81 [.tmp 4] fun w0 I0 F0 hF => ?_
 repeat first|refine n1 ?_|refine n3 ?_|((first|refine rg 0 [0, 1] [0, 1] [] ?_|refine rg 1 [0, 1] [0, 1, 5] [] ?_);simp (maxSteps := 1000000) [hF])
 refine VS.rounds (fun m st => ∃ (i : Nat), i + m = l.length ∧ (∀ j, (h : j < l.length) → j < i → ¬ l[j] = v) ∧ st = ⟨[(0, .imm 1 (dInts l) ex), (1, avInt v), (5, avInt i)], [], [], []⟩) ⟨l.length, 0, by omega, by omega, by simp⟩ ?_
 rintro m st ⟨i, hi, hall, rfl⟩
 repeat first|refine n1 ?_|((first|refine rg 2 [0, 1, 5] [0, 1, 5, 9] [] ?_|refine nc ?_);simp (maxSteps := 1000000) [hF])
 refine ⟨fun hlt => ?_, fun hge => ?_⟩
 ·have hi' : i < l.length := by omega
  have hn := dInts_nth hi'
  have hw : IntKind.i64.wrap ((i : Int) + 1) = (i + 1 : Nat) := by rw [IntWalk.i64_in _ (by omega)]; rfl
  by_cases hp : l[i] = v
  ·have hr : hasN l v = true := hasN_iff.2 (hp ▸ List.getElem_mem hi')
   repeat first|refine n1 ?_|refine n2 ?_|refine n3 ?_|((first|refine rg 4 [0, 1, 5] [0, 1, 5, 17] [] ?_|refine rg 5 [] [4] [] ?_|refine nc ?_);simp (maxSteps := 1000000) [hF, hn, hi', hp])
   (try refine nr ?_);(repeat first|refine nb_ ?_|refine nl_ ?_);refine endK.o [4] [] [] ?_;simp [hF, retK, covers, mpre, hr]
  ·repeat first|refine n1 ?_|refine n2 ?_|refine n3 ?_|refine n4 ?_|refine n5 ?_|refine n6 ?_|((first|refine rg 3 [0, 1, 5] [0, 1, 5] [] ?_|refine rg 4 [0, 1, 5] [0, 1, 5, 17] [] ?_|refine nc ?_);simp (maxSteps := 1000000) [hF, hn, hi', hp, hw])
   refine nextK.of [0, 1, 5] [] (m - 1) (by omega) (by simp [hF]) ?_
   refine ⟨i + 1, by omega, ?_, by simp⟩
   intro j hj hji
   rcases Nat.lt_or_ge j i with h' | h'
   ·exact hall j hj h'
   ·obtain rfl : j = i := by omega
    exact hp
 ·have hr : hasN l v = false := by
   rw [hasN, List.any_eq_false]
   intro x hx
   obtain ⟨j, hj, rfl⟩ := List.getElem_of_mem hx
   simpa using hall j hj (by omega)
  repeat first|refine n1 ?_|refine n7 ?_|(refine rg 6 [] [4] [] ?_;simp (maxSteps := 1000000) [hF])
  (try refine nr ?_);(repeat first|refine nb_ ?_|refine nl_ ?_);refine endK.o [4] [] [] ?_;simp [hF, retK, covers, mpre, hr]
/- cabochon/cabochonref27.size -/
theorem esize_ok (l : List Ob) (ex : Bool) (hl : l.length ≤ 100000) (hu : usedN l ≤ 100000) : Meets Try.prog 86 [] (.cons (.imm 3 (dObs false l) ex) .nil) fun av X κ => av = avInt (usedN l) ∧ X = [] ∧ κ = [] := by
 refine fb Try.func86 Try.ntmps86 [.tmp 2] fun w0 I0 F0 hF => ?_
 repeat first|refine n1 ?_|refine n3 ?_|((first|refine rg 0 [0] [0] [] ?_|refine rg 1 [0] [0, 3] [] ?_|refine rg 2 [0, 3] [0, 3, 4] [] ?_);simp (maxSteps := 1000000) [hF])
 refine VS.rounds (fun m st => ∃ (i : Nat), i + m = l.length ∧ st = ⟨[(0, .imm 3 (dObs false l) ex), (3, avInt (usedN (l.take i))), (4, avInt i)], [], [], []⟩) ⟨l.length, 0, by omega, by simp⟩ ?_
 rintro m st ⟨i, hi, rfl⟩
 repeat first|refine n1 ?_|((first|refine rg 3 [0, 3, 4] [0, 3, 4, 8] [] ?_|refine nc ?_);simp (maxSteps := 1000000) [hF])
 refine ⟨fun hlt => ?_, fun hge => ?_⟩
 ·have hn := dObs_nth (o := false) hlt
  have h1 : usedN (l.take (i + 1)) = usedN (l.take i) + l[i].slots.length := by
   rw [take_succ_at hlt, usedN_app]; simp [usedN]
  have h2 := usedN_take l (i + 1)
  have hw : IntKind.i64.wrap ((i : Int) + 1) = (i + 1 : Nat) := by rw [IntWalk.i64_in _ (by omega)]; rfl
  have hw2 : IntKind.i64.wrap ((usedN (l.take i) : Int) + l[i].slots.length) = (usedN (l.take (i + 1)) : Nat) := by rw [IntWalk.i64_in _ (by omega), h1]; rfl
  repeat first|refine n1 ?_|refine n2 ?_|refine n3 ?_|refine n4 ?_|refine n5 ?_|refine n6 ?_|((first|refine rg 4 [0, 3, 4] [0, 3, 4] [] ?_|refine rg 5 [0, 3, 4] [0, 3, 4] [] ?_);simp (maxSteps := 1000000) [hF, hn, hlt, hw, hw2])
  refine nextK.of [0, 3, 4] [] (m - 1) (by omega) (by simp [hF]) ?_
  exact ⟨i + 1, by omega, by simp⟩
 ·have hf : l.take i = l := List.take_of_length_le (by omega)
  repeat first|refine n1 ?_|refine n7 ?_|(refine rg 6 [3] [2] [] ?_;simp (maxSteps := 1000000) [hF, hf])
  (try refine nr ?_);(repeat first|refine nb_ ?_|refine nl_ ?_);refine endK.o [2] [] [] ?_;simp [hF, retK, covers, mpre, hf]
/- (*cabochon/cabochonref27.Heap).remembers -/
theorem erem_ok (h : Hp) (k : Ok h) (o : Ob) (ho : o.slots.length ≤ 8) : Meets Try.prog 87 [] (.cons (avE h) (.cons (avOb o) .nil)) fun av X κ => av = avBool (remB h o) ∧ X = [] ∧ κ = [] := by
 obtain ⟨b1, b2, b3, b4⟩ := k.lens
 refine fb Try.func87 Try.ntmps87 [.tmp 4] fun w0 I0 F0 hF => ?_
 repeat first|refine n1 ?_|refine n3 ?_|((first|refine rg 0 [0, 1] [0, 3] [] ?_|refine rg 1 [0, 3] [0, 3, 5] [] ?_);simp (maxSteps := 1000000) [hF])
 refine VS.rounds (fun m st => ∃ (i : Nat), i + m = o.slots.length ∧ (∀ j, (h' : j < o.slots.length) → j < i → inL h.young o.slots[j] = false) ∧ st = ⟨[(0, avE h), (3, .ptr 0 [.d]), (5, avInt i)], [.box true () (dOb false o)], [], []⟩) ⟨o.slots.length, 0, by omega, by omega, by simp [dOb]⟩ ?_
 rintro m st ⟨i, hi, hall, rfl⟩
 repeat first|refine n1 ?_|((first|refine rg 2 [0, 3, 5] [0, 3, 5, 10] [] ?_|refine nc ?_);simp (maxSteps := 1000000) [hF, dOb])
 refine ⟨fun hlt => ?_, fun hge => ?_⟩
 ·have hn := dInts_nth hlt
  have hw : IntKind.i64.wrap ((i : Int) + 1) = (i + 1 : Nat) := by rw [IntWalk.i64_in _ (by omega)]; rfl
  repeat first|refine n1 ?_|refine n2 ?_|refine n3 ?_|((refine dr 4 512 [0, 3, 5] [0, 3, 5, 23] [] [⟨0, 1, 8192, 5⟩, ⟨1, 8192, 16384, 5⟩, ⟨2, 16384, 32768, 5⟩, ⟨4, 32768, 65536, 6⟩, ⟨0, 8, 131072, 5⟩, ⟨16, 131072, 262144, 6⟩, ⟨0, 32, 524288, 5⟩, ⟨96, 786432, 1048576, 5⟩, ⟨128, 1048576, 2097152, 6⟩, ⟨264, 2162688, 4194304, 0⟩, ⟨512, 4194304, 8388608, 5⟩] (.take 0 (.take 1 (.take 2 (.take 3 (.take 4 (.take 5 (.take 6 (.take 7 (.take 8 (.fork (.alt 9 (.take 10 (.done)) (.nil)))))))))))) (.run [0, 1, 2, 3, 4, 5, 6, 7, 8] (.chk 9 (.run [9, 10] (.done)))) ?_;simp only [drs]);simp (maxSteps := 1000000) [hF, eHb, dOb, hn, hlt])
  cases hy : inL h.young o.slots[i] with
  | true =>
   obtain ⟨j, hj, hix, _⟩ := inL_at hy
   have hc : remB h o = true := List.any_eq_true.2 ⟨_, List.getElem_mem hlt, hy⟩
   refine (eindex_ok false h.young o.slots[i] (by omega)).go [] (by simp (maxSteps := 1000000) [hF, hix]) ?_;rintro av X κ ⟨rfl, rfl, rfl⟩;simp (maxSteps := 1000000) [hF, hix]
   repeat first|refine n1 ?_|((first|refine rg 5 [] [4] [] ?_|refine nc ?_);simp (maxSteps := 1000000) [hF])
   (try refine nr ?_);(repeat first|refine nb_ ?_|refine nl_ ?_);refine endK.o [4] [] [] ?_;simp [hF, retK, covers, mpre, hc]
  | false =>
   have hix := ixO_none hy
   refine (eindex_ok false h.young o.slots[i] (by omega)).go [] (by simp (maxSteps := 1000000) [hF, hix]) ?_;rintro av X κ ⟨rfl, rfl, rfl⟩;simp (maxSteps := 1000000) [hF, hix]
   repeat first|refine n2 ?_|refine n4 ?_|refine n5 ?_|refine n6 ?_|((first|refine rg 3 [0, 3, 5] [0, 3, 5] [] ?_|refine nc ?_);simp (maxSteps := 1000000) [hF, hw])
   refine nextK.of [0, 3, 5] [0] (m - 1) (by omega) (by simp [hF]) ?_
   refine ⟨i + 1, by omega, fun j h' hj => ?_, by simp [dOb, eHb]⟩
   rcases Nat.lt_or_ge j i with h2 | h2
   ·exact hall j h' h2
   ·obtain rfl : j = i := by omega
    exact hy
 ·have hc : remB h o = false := by
   rw [remB, List.any_eq_false]
   intro x hx
   obtain ⟨j, hj, rfl⟩ := List.getElem_of_mem hx
   simp [hall j hj (by omega)]
  repeat first|refine n1 ?_|refine n7 ?_|(refine rg 6 [] [4] [] ?_;simp (maxSteps := 1000000) [hF])
  (try refine nr ?_);(repeat first|refine nb_ ?_|refine nl_ ?_);refine endK.o [4] [] [] ?_;simp [hF, retK, covers, mpre, hc]
/- (*cabochon/cabochonref27.Heap).asked -/
theorem easked_ok (h : Hp) (k : Ok h) (x : Int) : Meets Try.prog 93 [] (.cons (avE h) (.cons (avInt x) .nil)) fun av X κ => av = avInt (askedOf h x) ∧ X = [] ∧ κ = [] := by
 refine fb Try.func93 Try.ntmps93 [.tmp 4] fun w0 I0 F0 hF => ?_
 repeat first|refine n1 ?_|((first|refine rg 0 [0, 1] [0, 1] [] ?_|refine rg 1 [0, 1] [0, 1, 10] [(2, 7)] ?_);simp (maxSteps := 1000000) [hF])
 by_cases h1 : x < 0
 ·have hc : askedOf h x = 1 := by simp [askedOf, h1]
  refine (no_ok h).go [] (by simp (maxSteps := 1000000) [hF, h1]) ?_;rintro av X κ ⟨rfl, rfl, rfl⟩;simp (maxSteps := 1000000) [hF, h1]
  repeat first|refine n1 ?_|((first|refine rg 2 [] [4] [] ?_|refine nc ?_);simp (maxSteps := 1000000) [hF])
  (try refine nr ?_);(repeat first|refine nb_ ?_|refine nl_ ?_);refine endK.o [4] [] [] ?_;simp [hF, retK, covers, mpre, hc]
 ·refine (no_ok h).go [] (by simp (maxSteps := 1000000) [hF, h1]) ?_;rintro av X κ ⟨rfl, rfl, rfl⟩;simp (maxSteps := 1000000) [hF, h1]
  repeat first|refine n1 ?_|refine n2 ?_|((first|refine rg 3 [0, 1] [14] [] ?_|refine nc ?_);simp (maxSteps := 1000000) [hF])
  cases ht : there h x with
  | true =>
   have hc : askedOf h x = 0 := by simp [askedOf, h1, ht]
   refine (ethere_ok h k x).go [] (by simp (maxSteps := 1000000) [hF, ht]) ?_;rintro av X κ ⟨rfl, rfl, rfl⟩;simp (maxSteps := 1000000) [hF, ht]
   repeat first|refine n1 ?_|refine n2 ?_|((first|refine rg 5 [] [4] [] ?_|refine nc ?_);simp (maxSteps := 1000000) [hF])
   (try refine nr ?_);(repeat first|refine nb_ ?_|refine nl_ ?_);refine endK.o [4] [] [] ?_;simp [hF, retK, covers, mpre, hc]
  | false =>
   have hc : askedOf h x = 3 := by simp [askedOf, h1, ht]
   refine (ethere_ok h k x).go [] (by simp (maxSteps := 1000000) [hF, ht]) ?_;rintro av X κ ⟨rfl, rfl, rfl⟩;simp (maxSteps := 1000000) [hF, ht]
   repeat first|refine n1 ?_|((first|refine rg 4 [] [4] [] ?_|refine nc ?_);simp (maxSteps := 1000000) [hF])
   (try refine nr ?_);(repeat first|refine nb_ ?_|refine nl_ ?_);refine endK.o [4] [] [] ?_;simp [hF, retK, covers, mpre, hc]
theorem slotErr_asked {h : Hp} {x s : Int} (h2 : ¬ (s < 0 ∨ 7 < s)) (ha : ¬ askedOf h x = 0) : slotErr h x s 0 = askedOf h x := by
 unfold askedOf at ha ⊢
 rw [slotErr]
 by_cases h1 : x < 0
 ·simp [h1]
 ·rw [if_neg h1] at ha ⊢
  rw [if_neg (by omega)]
  cases ht : there h x with
  | true => simp [ht] at ha
  | false => simp
/- (*cabochon/cabochonref27.Heap).slot -/
theorem eslot_ok (h : Hp) (k : Ok h) (x s : Int) : Meets Try.prog 90 [] (.cons (avE h) (.cons (avInt x) (.cons (avInt s) .nil))) fun av X κ => av = avInt (slotErr h x s 0) ∧ X = [] ∧ κ = [] := by
 refine fb Try.func90 Try.ntmps90 [.tmp 6] fun w0 I0 F0 hF => ?_
 by_cases h2 : s < 0
 ·have hc : slotErr h x s 0 = 1 := by simp [slotErr, h2]
  repeat first|refine n1 ?_|((first|refine rg 0 [0, 1, 2] [0, 1, 2] [] ?_|refine rg 1 [0, 1, 2] [0, 1, 2, 13] [(2, 10)] ?_|refine rg 2 [] [6] [] ?_|refine nc ?_);simp (maxSteps := 1000000) [hF, h2])
  (try refine nr ?_);(repeat first|refine nb_ ?_|refine nl_ ?_);refine endK.o [6] [] [] ?_;simp [hF, retK, covers, mpre, hc]
 by_cases h3 : 7 < s
 ·have hc : slotErr h x s 0 = 1 := by rw [slotErr, if_pos (by omega)]
  repeat first|refine n1 ?_|((first|refine rg 0 [0, 1, 2] [0, 1, 2] [] ?_|refine rg 1 [0, 1, 2] [0, 1, 2, 13] [(2, 10)] ?_|refine rg 2 [] [6] [] ?_|refine nc ?_);simp (maxSteps := 1000000) [hF, h2, h3])
  (try refine nr ?_);(repeat first|refine nb_ ?_|refine nl_ ?_);refine endK.o [6] [] [] ?_;simp [hF, retK, covers, mpre, hc]
 repeat first|refine n1 ?_|refine n2 ?_|((first|refine rg 0 [0, 1, 2] [0, 1, 2] [] ?_|refine rg 1 [0, 1, 2] [0, 1, 2, 13] [(2, 10)] ?_|refine rg 3 [0, 1, 2] [0, 1, 2, 7] [] ?_|refine nc ?_);simp (maxSteps := 1000000) [hF, h2, h3])
 by_cases ha : askedOf h x = 0
 ·have ht := asked_there ha
  have h1 : ¬ x < 0 := fun h1 => by simp [askedOf, h1] at ha
  obtain ⟨t, rfl⟩ : ∃ t : Nat, s = t := ⟨s.toNat, by omega⟩
  refine (easked_ok h k x).go [] (by simp (maxSteps := 1000000) [hF, ha]) ?_;rintro av X κ ⟨rfl, rfl, rfl⟩;simp (maxSteps := 1000000) [hF, ha]
  repeat first|refine n1 ?_|refine n2 ?_|((first|refine rg 4 [0, 1, 2, 7] [0, 1, 2, 7, 18] [] ?_|refine rg 6 [0, 1, 2] [25] [] ?_|refine nc ?_);simp (maxSteps := 1000000) [hF, ha])
  by_cases h4 : ((slotsOf h x).length : Int) ≤ t
  ·have hc : slotErr h x t 0 = 1 := by rw [slotErr, if_neg (by omega), if_pos ⟨ht, h4⟩]
   refine (eslots_ok h k x ht).go [] (by simp (maxSteps := 1000000) [hF, h4]) ?_;rintro av X κ ⟨rfl, rfl, rfl⟩;simp (maxSteps := 1000000) [hF, h4]
   repeat first|refine n1 ?_|((first|refine rg 7 [] [6] [] ?_|refine nc ?_);simp (maxSteps := 1000000) [hF, h4])
   (try refine nr ?_);(repeat first|refine nb_ ?_|refine nl_ ?_);refine endK.o [6] [] [] ?_;simp [hF, retK, covers, mpre, hc]
  ·have hc : slotErr h x t 0 = 0 := by rw [slotErr, if_neg (by omega), if_neg (fun e => h4 e.2), if_neg (by simp [ht])]
   refine (eslots_ok h k x ht).go [] (by simp (maxSteps := 1000000) [hF, h4]) ?_;rintro av X κ ⟨rfl, rfl, rfl⟩;simp (maxSteps := 1000000) [hF, h4]
   repeat first|refine n1 ?_|refine n2 ?_|((first|refine rg 8 [] [6] [] ?_|refine nc ?_);simp (maxSteps := 1000000) [hF, h4])
   (try refine nr ?_);(repeat first|refine nb_ ?_|refine nl_ ?_);refine endK.o [6] [] [] ?_;simp [hF, retK, covers, mpre, hc]
 ·have hc := slotErr_asked (h := h) (x := x) (s := s) (by omega) ha
  refine (easked_ok h k x).go [] (by simp (maxSteps := 1000000) [hF, ha]) ?_;rintro av X κ ⟨rfl, rfl, rfl⟩;simp (maxSteps := 1000000) [hF, ha]
  repeat first|refine n1 ?_|((first|refine rg 4 [0, 1, 2, 7] [0, 1, 2, 7, 18] [] ?_|refine rg 5 [7] [6] [] ?_|refine nc ?_);simp (maxSteps := 1000000) [hF, ha])
  (try refine nr ?_);(repeat first|refine nb_ ?_|refine nl_ ?_);refine endK.o [6] [] [] ?_;simp [hF, retK, covers, mpre, hc]
/- (*cabochon/cabochonref27.Heap).Get -/
theorem eget_ok (h : Hp) (k : Ok h) (x s : Int) : Meets Try.prog 85 [] (.cons (avE h) (.cons (avInt x) (.cons (avInt s) .nil))) fun av X κ => av = two (getOf h x s) ∧ X = [] ∧ κ = [] := by
 refine fb Try.func85 Try.ntmps85 [.tmp 6, .tmp 7] fun w0 I0 F0 hF => ?_
 repeat first|refine n1 ?_|((first|refine rg 0 [0, 1, 2] [0, 1, 2] [] ?_|refine rg 1 [0, 1, 2] [0, 1, 2, 8] [] ?_);simp (maxSteps := 1000000) [hF])
 by_cases he : slotErr h x s 0 = 0
 ·obtain ⟨t, rfl, ht, hth⟩ : ∃ t : Nat, s = t ∧ t < (slotsOf h x).length ∧ there h x = true := by
   unfold slotErr at he
   split at he
   ·cases he
   ·rename_i h1
    split at he
    ·cases he
    ·rename_i h2
     split at he
     ·cases he
     ·rename_i h3
      have ht : there h x = true := by
       cases e : there h x with
       | true => rfl
       | false => exact absurd (.inl e) h3
      exact ⟨s.toNat, by omega, by have : ¬ (slotsOf h x).length ≤ s := fun hh => h2 ⟨ht, hh⟩; omega, ht⟩
  have hn := dInts_nth ht
  have hc : getOf h x t = ((slotsOf h x)[t], 0) := by simp [getOf, he, ht]
  refine (eslot_ok h k x t).go [] (by simp (maxSteps := 1000000) [hF, he]) ?_;rintro av X κ ⟨rfl, rfl, rfl⟩;simp (maxSteps := 1000000) [hF, he]
  repeat first|refine n1 ?_|refine n2 ?_|((first|refine rg 2 [0, 1, 2, 8] [0, 1, 2, 8, 14] [] ?_|refine rg 4 [0, 1, 2] [6, 7] [] ?_|refine nc ?_);simp (maxSteps := 1000000) [hF, he])
  refine (eslots_ok h k x hth).go [] (by simp (maxSteps := 1000000) [hF, hn, ht]) ?_;rintro av X κ ⟨rfl, rfl, rfl⟩;simp (maxSteps := 1000000) [hF, hn, ht]
  (try refine nr ?_);(repeat first|refine nb_ ?_|refine nl_ ?_);refine endK.o [6, 7] [] [] ?_;simp [hF, retK, covers, mpre, hc]
 ·have hc : getOf h x s = (0, slotErr h x s 0) := by simp [getOf, he]
  refine (eslot_ok h k x s).go [] (by simp (maxSteps := 1000000) [hF, he]) ?_;rintro av X κ ⟨rfl, rfl, rfl⟩;simp (maxSteps := 1000000) [hF, he]
  repeat first|refine n1 ?_|((first|refine rg 2 [0, 1, 2, 8] [0, 1, 2, 8, 14] [] ?_|refine rg 3 [8] [6, 7] [] ?_|refine nc ?_);simp (maxSteps := 1000000) [hF, he])
  (try refine nr ?_);(repeat first|refine nb_ ?_|refine nl_ ?_);refine endK.o [6, 7] [] [] ?_;simp [hF, retK, covers, mpre, hc]
/- (*cabochon/cabochonref27.Heap).Used -/
theorem eused_ok (h : Hp) (k : Ok h) : Meets Try.prog 55 [] (.cons (avE h) .nil) fun av X κ => av = two (usedN h.young, usedN h.old) ∧ X = [] ∧ κ = [] := by
 obtain ⟨b1, b2, b3, b4⟩ := k.lens
 refine fb Try.func55 Try.ntmps55 [.tmp 2, .tmp 3] fun w0 I0 F0 hF => ?_
 repeat first|refine n1 ?_|((first|refine rg 0 [0] [0] [] ?_|refine rg 1 [0] [0, 5] [] ?_);simp (maxSteps := 1000000) [hF])
 refine (no_ok h).go [] (by simp (maxSteps := 1000000) [hF]) ?_;rintro av X κ ⟨rfl, rfl, rfl⟩;simp (maxSteps := 1000000) [hF]
 repeat first|refine n1 ?_|refine n2 ?_|((first|(refine dr 3 0 [0] [2, 3] [] [⟨0, 1, 64, 5⟩, ⟨1, 64, 128, 5⟩, ⟨2, 128, 256, 5⟩, ⟨4, 256, 512, 6⟩, ⟨8, 512, 1024, 0⟩, ⟨0, 1, 2048, 5⟩, ⟨32, 2048, 4096, 5⟩, ⟨64, 4096, 8192, 5⟩, ⟨128, 8192, 16384, 6⟩, ⟨272, 16384, 32768, 0⟩, ⟨543, 1024, 4, 5⟩, ⟨2047, 32768, 8, 5⟩] (.take 0 (.take 1 (.take 2 (.take 3 (.take 5 (.take 6 (.take 7 (.fork (.alt 4 (.take 8 (.fork (.alt 9 (.take 10 (.take 11 (.done))) (.nil)))) (.alt 8 (.fork (.alt 4 (.fork (.alt 9 (.take 10 (.take 11 (.done))) (.nil))) (.nil))) (.nil))))))))))) (.run [0, 1, 2, 3, 5, 6, 7] (.both (.run [4, 8, 9, 10, 11] (.done)) (.run [8, 4, 9, 10, 11] (.done)))) ?_;simp only [drs])|refine nc ?_);simp (maxSteps := 1000000) [hF, eHb])
 (repeat' with_reducible refine And.intro ?_ ?_)
 all_goals (refine (esize_ok h.young false (by omega) (by omega)).go [] (by simp (maxSteps := 1000000) [hF]) ?_;rintro av X κ ⟨rfl, rfl, rfl⟩;simp (maxSteps := 1000000) [hF])
 (repeat' with_reducible refine And.intro ?_ ?_)
 all_goals (refine (esize_ok h.old false (by omega) (by omega)).go [] (by simp (maxSteps := 1000000) [hF]) ?_;rintro av X κ ⟨rfl, rfl, rfl⟩;simp (maxSteps := 1000000) [hF])
 all_goals ((try refine nr ?_);(repeat first|refine nb_ ?_|refine nl_ ?_);refine endK.o [2, 3] [] [] ?_;simp [hF, retK, covers, mpre])

/- cabochon/cabochonref27.ascending -/
theorem ascending_ok (l : List Int) (ex : Bool) (hl : l.length ≤ 100000) : Meets Try.prog 51 [] (.cons (.imm 1 (dInts l) ex) .nil) fun av X κ => av = .sub 0 [] 0 (ascend l).length false ∧ X = [.sl true () 1 (dInts (ascend l))] ∧ κ = [] := by
 refine fb Try.func51 Try.ntmps51 [.tmp 2] fun w0 I0 F0 hF => ?_
 repeat first|refine n1 ?_|((first|refine rg 0 [0] [0] [] ?_|refine rg 1 [0] [0, 3] [] ?_);simp (maxSteps := 1000000) [hF])
 refine VS.hold0 3 1 (by simp) ?_
 repeat first|refine n3 ?_|(refine rg 2 [0, 3] [0, 3, 4] [] ?_;simp (maxSteps := 1000000) [hF])
 refine VS.rounds (fun m st => ∃ (i : Nat) (acc : List Int), i + m = l.length ∧ acc = (l.take i).foldl putAt [] ∧ acc.length = i ∧ st = ⟨[(0, .imm 1 (dInts l) ex), (3, .sub 0 [] 0 acc.length false), (4, avInt i)], [.sl true () 1 (dInts acc)], [], []⟩) ⟨l.length, 0, [], by omega, by simp, rfl, by simp⟩ ?_
 rintro m st ⟨i, acc, hi, hacc, hal, rfl⟩
 repeat first|refine n1 ?_|((first|refine rg 3 [0, 3, 4] [0, 3, 4, 9] [] ?_|refine nc ?_);simp (maxSteps := 1000000) [hF])
 refine ⟨fun hlt => ?_, fun hge => ?_⟩
 ·have hn := dInts_nth hlt
  have hw1 : IntKind.i64.wrap ((i : Int) + 1) = (i + 1 : Nat) := by rw [IntWalk.i64_in _ (by omega)]; rfl
  have hst : (l.take (i + 1)).foldl putAt [] = putAt acc l[i] := by
   rw [List.take_add_one, List.getElem?_eq_getElem hlt, List.foldl_append, ← hacc]; rfl
  have hpl : (putAt acc l[i]).length = i + 1 := by have := (putAt_perm acc l[i]).length_eq; simp [hal] at this; omega
  have step : ∀ k : Nat, k ≤ acc.length → goesAt acc l[i] acc.length = k → putAt acc l[i] = acc.take k ++ l[i] :: acc.drop k := fun k _ h => by rw [putAt, h]
  repeat first|refine n1 ?_|refine n2 ?_|refine n3 ?_|(refine rg 5 [0, 3, 4] [0, 3, 4, 5] [] ?_;simp (maxSteps := 1000000) [hF])
  refine VS.rounds (fun m2 st => m2 ≤ acc.length ∧ goesAt acc l[i] acc.length = goesAt acc l[i] m2 ∧ st = ⟨[(0, .imm 1 (dInts l) ex), (3, .sub 0 [] 0 acc.length false), (4, avInt i), (5, avInt m2)], [.sl true () 1 (dInts acc)], [], []⟩) ⟨acc.length, Nat.le_refl _, rfl, by simp⟩ ?_
  rintro m2 st ⟨hk, hg, rfl⟩
  rcases m2 with _ | k
  ·have hs := step 0 (Nat.zero_le _) hg
   have c1 : (1 + acc.length) * 8 ≤ 140737488355328 := by omega
   have c2 : 1 + acc.length ≤ 9223372036854775807 := by omega
   repeat first|refine n1 ?_|refine n7 ?_|refine n8 ?_|refine n0 ?_|((first|(refine dr 6 0 [0, 3, 4, 5] [0, 3, 4, 5, 27] [(2, 16)] [⟨0, 32, 16384, 5⟩, ⟨1, 16384, 32768, 5⟩, ⟨2, 32768, 65536, 5⟩, ⟨4, 65544, 131072, 5⟩, ⟨4, 65568, 262144, 5⟩, ⟨20, 327680, 524288, 5⟩, ⟨44, 720896, 1048576, 5⟩, ⟨68, 1114112, 2097152, 6⟩, ⟨4, 65537, 4194304, 5⟩, ⟨4, 65552, 8388608, 5⟩, ⟨772, 12648448, 16777216, 5⟩, ⟨1028, 16842752, 33554432, 6⟩, ⟨2180, 35717120, 67108864, 5⟩, ⟨4100, 67174400, 134217728, 5⟩] (.take 0 (.take 1 (.take 2 (.take 3 (.take 4 (.take 5 (.take 6 (.take 7 (.take 8 (.take 9 (.take 10 (.take 11 (.take 12 (.take 13 (.done))))))))))))))) (.run [0, 1, 2, 3, 4, 5, 6, 7, 8, 9, 10, 11, 12, 13] (.done)) ?_;simp only [drs])|(refine dr 8 16 [0, 3, 4, 5] [0, 3, 4] [] [⟨0, 0, 1073741824, 4⟩, ⟨0, 8, 2147483648, 5⟩, ⟨0, 32, 4294967296, 5⟩, ⟨6, 6442450944, 8589934592, 5⟩, ⟨9, 9663676416, 17179869184, 0⟩, ⟨0, 1, 34359738368, 5⟩, ⟨0, 16, 68719476736, 5⟩, ⟨96, 103079215104, 137438953472, 5⟩, ⟨128, 137438953472, 274877906944, 6⟩, ⟨256, 274877906944, 549755813888, 4⟩, ⟨528, 566935683072, 1099511627776, 0⟩, ⟨0, 8, 2199023255552, 5⟩, ⟨0, 32, 4398046511104, 5⟩, ⟨6144, 6597069766656, 8796093022208, 5⟩, ⟨9216, 9895604649984, 17592186044416, 0⟩, ⟨32767, 17592186044416, 8, 5⟩] (.take 1 (.take 2 (.take 3 (.take 5 (.take 6 (.take 7 (.take 8 (.take 11 (.take 12 (.take 13 (.fork (.alt 0 (.fork (.alt 4 (.fork (.alt 9 (.fork (.alt 10 (.fork (.alt 14 (.take 15 (.done)) (.nil))) (.nil))) (.nil))) (.alt 9 (.fork (.alt 4 (.fork (.alt 10 (.fork (.alt 14 (.take 15 (.done)) (.nil))) (.nil))) (.nil))) (.nil)))) (.alt 9 (.fork (.alt 0 (.fork (.alt 4 (.fork (.alt 10 (.fork (.alt 14 (.take 15 (.done)) (.nil))) (.nil))) (.nil))) (.nil))) (.nil)))))))))))))) (.run [1, 2, 3, 5, 6, 7, 8, 11, 12, 13] (.both (.run [0] (.both (.chk 4 (.run [4, 9, 10, 14, 15] (.done))) (.run [9] (.chk 4 (.run [4, 10, 14, 15] (.done)))))) (.run [9, 0] (.chk 4 (.run [4, 10, 14, 15] (.done)))))) ?_;simp only [drs])|refine nc ?_);simp (maxSteps := 1000000) [hF, hn, hlt, c1, c2])
   refine ⟨?_, ?_⟩
   ·repeat first|refine n4 ?_|refine n5 ?_|refine n6 ?_|(refine rg 4 [0, 3, 4] [0, 3, 4] [] ?_;simp (maxSteps := 1000000) [hF, hw1])
    refine nextK.of [0, 3, 4] [1] (m - 1) (by omega) (by simp [hF]) ?_
    exact ⟨i + 1, _, by omega, hst.symm, hpl, by simp [hs, Nat.add_comm]; rfl⟩
   ·repeat first|refine n4 ?_|refine n5 ?_|refine n6 ?_|(refine rg 4 [0, 3, 4] [0, 3, 4] [] ?_;simp (maxSteps := 1000000) [hF, hw1])
    refine nextK.of [0, 3, 4] [2] (m - 1) (by omega) (by simp [hF]) ?_
    exact ⟨i + 1, _, by omega, hst.symm, hpl, by simp [hs, Nat.add_comm]; rfl⟩
  ·have hw : IntKind.i64.wrap (k : Int) = (k : Nat) := IntWalk.i64_in _ (by omega)
   have hka : k < acc.length := by omega
   have hkn := dInts_nth (l := acc) (i := k) (by omega)
   have hgd : acc.getD k 0 = acc[k] := by rw [List.getD_eq_getElem?_getD, List.getElem?_eq_getElem (by omega)]; rfl
   rw [goesAt, hgd] at hg
   by_cases hx : l[i] < acc[k]
   ·rw [if_pos hx] at hg
    repeat first|refine n1 ?_|refine n2 ?_|refine n3 ?_|refine n4 ?_|refine n6 ?_|((first|(refine dr 6 0 [0, 3, 4, 5] [0, 3, 4, 5, 27] [(2, 16)] [⟨0, 32, 16384, 5⟩, ⟨1, 16384, 32768, 5⟩, ⟨2, 32768, 65536, 5⟩, ⟨4, 65544, 131072, 5⟩, ⟨4, 65568, 262144, 5⟩, ⟨20, 327680, 524288, 5⟩, ⟨44, 720896, 1048576, 5⟩, ⟨68, 1114112, 2097152, 6⟩, ⟨4, 65537, 4194304, 5⟩, ⟨4, 65552, 8388608, 5⟩, ⟨772, 12648448, 16777216, 5⟩, ⟨1028, 16842752, 33554432, 6⟩, ⟨2180, 35717120, 67108864, 5⟩, ⟨4100, 67174400, 134217728, 5⟩] (.take 0 (.take 1 (.take 2 (.take 3 (.take 4 (.take 5 (.take 6 (.take 7 (.take 8 (.take 9 (.take 10 (.take 11 (.take 12 (.take 13 (.done))))))))))))))) (.run [0, 1, 2, 3, 4, 5, 6, 7, 8, 9, 10, 11, 12, 13] (.done)) ?_;simp only [drs])|refine rg 7 [0, 3, 4, 5] [0, 3, 4, 5] [] ?_|refine nc ?_);simp (maxSteps := 1000000) [hF, hw, hkn, hn, hlt, hka, hx])
    refine nextK.of [0, 3, 4, 5] [0] (k) (by omega) (by simp [hF]) ?_
    exact ⟨by omega, hg, by simp⟩
   ·rw [if_neg hx] at hg
    have hs := step (k + 1) hk hg
    have hk1 : k + 1 ≤ acc.length := by omega
    have hm1 : (dInts acc).mid 0 (k + 1) = dInts (acc.take (k + 1)) := by rw [ints_mid, List.drop_zero]
    have hm2 : (dInts acc).mid (k + 1) (acc.length - (k + 1)) = dInts (acc.drop (k + 1)) := by rw [ints_mid, List.take_of_length_le (by simp)]
    have hm3 : (dInts (acc.take (k + 1))).mid 0 (k + 1) = dInts (acc.take (k + 1)) := sq_mid_all _ _ (by simp; omega)
    have hm4 : (dInts (acc.take (k + 1) ++ [l[i]])).mid 0 (k + 1 + 1) = dInts (acc.take (k + 1) ++ [l[i]]) := sq_mid_all _ _ (by simp; omega)
    have hq : k + 1 + 1 + (acc.length - (k + 1)) = acc.length + 1 := by omega
    have c1 : (k + 1) * 8 ≤ 140737488355328 := by omega
    have c2 : k ≤ 9223372036854775806 := by omega
    have c3 : (k + 1 + 1) * 8 ≤ 140737488355328 := by omega
    have c4 : k ≤ 9223372036854775805 := by omega
    have c5 : (acc.length + 1) * 8 ≤ 140737488355328 := by omega
    have c6 : acc.length ≤ 9223372036854775806 := by omega
    have c7 : (0 : Int) ≤ (k : Int) + 1 := by omega
    have hap : acc.take (k + 1) ++ [l[i]] ++ acc.drop (k + 1) = putAt acc l[i] := by rw [hs]; simp
    repeat first|refine n1 ?_|refine n7 ?_|refine n8 ?_|refine n0 ?_|((first|(refine dr 6 0 [0, 3, 4, 5] [0, 3, 4, 5, 27] [(2, 16)] [⟨0, 32, 16384, 5⟩, ⟨1, 16384, 32768, 5⟩, ⟨2, 32768, 65536, 5⟩, ⟨4, 65544, 131072, 5⟩, ⟨4, 65568, 262144, 5⟩, ⟨20, 327680, 524288, 5⟩, ⟨44, 720896, 1048576, 5⟩, ⟨68, 1114112, 2097152, 6⟩, ⟨4, 65537, 4194304, 5⟩, ⟨4, 65552, 8388608, 5⟩, ⟨772, 12648448, 16777216, 5⟩, ⟨1028, 16842752, 33554432, 6⟩, ⟨2180, 35717120, 67108864, 5⟩, ⟨4100, 67174400, 134217728, 5⟩] (.take 0 (.take 1 (.take 2 (.take 3 (.take 4 (.take 5 (.take 6 (.take 7 (.take 8 (.take 9 (.take 10 (.take 11 (.take 12 (.take 13 (.done))))))))))))))) (.run [0, 1, 2, 3, 4, 5, 6, 7, 8, 9, 10, 11, 12, 13] (.done)) ?_;simp only [drs])|(refine dr 8 16 [0, 3, 4, 5] [0, 3, 4] [] [⟨0, 0, 1073741824, 4⟩, ⟨0, 8, 2147483648, 5⟩, ⟨0, 32, 4294967296, 5⟩, ⟨6, 6442450944, 8589934592, 5⟩, ⟨9, 9663676416, 17179869184, 0⟩, ⟨0, 1, 34359738368, 5⟩, ⟨0, 16, 68719476736, 5⟩, ⟨96, 103079215104, 137438953472, 5⟩, ⟨128, 137438953472, 274877906944, 6⟩, ⟨256, 274877906944, 549755813888, 4⟩, ⟨528, 566935683072, 1099511627776, 0⟩, ⟨0, 8, 2199023255552, 5⟩, ⟨0, 32, 4398046511104, 5⟩, ⟨6144, 6597069766656, 8796093022208, 5⟩, ⟨9216, 9895604649984, 17592186044416, 0⟩, ⟨32767, 17592186044416, 8, 5⟩] (.take 1 (.take 2 (.take 3 (.take 5 (.take 6 (.take 7 (.take 8 (.take 11 (.take 12 (.take 13 (.fork (.alt 0 (.fork (.alt 4 (.fork (.alt 9 (.fork (.alt 10 (.fork (.alt 14 (.take 15 (.done)) (.nil))) (.nil))) (.nil))) (.alt 9 (.fork (.alt 4 (.fork (.alt 10 (.fork (.alt 14 (.take 15 (.done)) (.nil))) (.nil))) (.nil))) (.nil)))) (.alt 9 (.fork (.alt 0 (.fork (.alt 4 (.fork (.alt 10 (.fork (.alt 14 (.take 15 (.done)) (.nil))) (.nil))) (.nil))) (.nil))) (.nil)))))))))))))) (.run [1, 2, 3, 5, 6, 7, 8, 11, 12, 13] (.both (.run [0] (.both (.chk 4 (.run [4, 9, 10, 14, 15] (.done))) (.run [9] (.chk 4 (.run [4, 10, 14, 15] (.done)))))) (.run [9, 0] (.chk 4 (.run [4, 10, 14, 15] (.done)))))) ?_;simp only [drs])|refine nc ?_);simp (maxSteps := 1000000) [hF, hw, hkn, hn, hlt, hka, hx, hk1, hm1, hm2, hm3, hm4, hq, c1, c2, c3, c4, c5, c6, c7, hap])
    refine ⟨?_, ?_⟩
    ·repeat first|refine n4 ?_|refine n5 ?_|refine n6 ?_|(refine rg 4 [0, 3, 4] [0, 3, 4] [] ?_;simp (maxSteps := 1000000) [hF, hw1])
     refine nextK.of [0, 3, 4] [1] (m - 1) (by omega) (by simp [hF]) ?_
     exact ⟨i + 1, _, by omega, hst.symm, hpl, by simp [hpl, hal]⟩
    ·repeat first|refine n4 ?_|refine n5 ?_|refine n6 ?_|(refine rg 4 [0, 3, 4] [0, 3, 4] [] ?_;simp (maxSteps := 1000000) [hF, hw1])
     refine nextK.of [0, 3, 4] [2] (m - 1) (by omega) (by simp [hF]) ?_
     exact ⟨i + 1, _, by omega, hst.symm, hpl, by simp [hpl, hal]⟩
 ·have hf : acc = ascend l := by rw [hacc, List.take_of_length_le (by omega)]; rfl
  repeat first|refine n1 ?_|refine n7 ?_|(refine rg 9 [3] [2] [] ?_;simp (maxSteps := 1000000) [hF])
  (try refine nr ?_);(repeat first|refine nb_ ?_|refine nl_ ?_);refine endK.o [2] [0] [] ?_;simp [hF, retK, covers, mpre, hf]
/- cabochon/cabochonref27.ascending -/
theorem ascending_c (l : List Int) (ex : Bool) (hl : l.length ≤ 100000) : Meets Try.prog 51 [.sl true () 1 (dInts l)] (.cons (.sub 0 [] 0 l.length ex) .nil) fun av X κ => av = .sub 1 [] 0 (ascend l).length false ∧ X = [.sl true () 1 (dInts l), .sl true () 1 (dInts (ascend l))] ∧ κ = [] :=
 warmL (ascending_ok l ex hl) (by simp only [AV.chilled, dInts_mid, freeze_ints]) rfl (by simp [T.allOwn]) rfl

/- (*cabochon/cabochonref27.Heap).Weaks -/
theorem eweaks_ok (h : Hp) (k : Ok h) (hwl : h.weak.length ≤ 1000000) : Meets Try.prog 59 [] (.cons (avE h) .nil) fun av X κ => av = .sub 0 [] 0 h.weak.length false ∧ X = [.sl true () 2 (dEns h.weak)] ∧ κ = [] := by
 refine fb Try.func59 Try.ntmps59 [.tmp 2] fun w0 I0 F0 hF => ?_
 repeat first|refine n1 ?_|((first|refine rg 0 [0] [0] [] ?_|refine rg 1 [0] [0, 3] [] ?_);simp (maxSteps := 1000000) [hF])
 refine VS.hold0 3 2 (by simp) ?_
 repeat first|refine n3 ?_|(refine rg 2 [0, 3] [0, 3, 4] [] ?_;simp (maxSteps := 1000000) [hF])
 refine VS.rounds (fun m st => ∃ (i : Nat) (acc : List (Int × Int)), i + m = h.weak.length ∧ acc = h.weak.take i ∧ st = ⟨[(0, avE h), (3, .sub 0 [] 0 i false), (4, avInt i)], [.sl true () 2 (dEns acc)], [], []⟩) ⟨h.weak.length, 0, [], by omega, by simp, by simp⟩ ?_
 rintro m st ⟨i, acc, hi, hacc, rfl⟩
 repeat first|refine n1 ?_|(refine rg 3 [0, 3, 4] [0, 3, 4, 16] [(3, 8)] ?_;simp (maxSteps := 1000000) [hF])
 by_cases hlt : i < h.weak.length
 ·refine (no_ok h).go [] (by simp (maxSteps := 1000000) [hF, eHb, hlt]) ?_;rintro av X κ ⟨rfl, rfl, rfl⟩;simp (maxSteps := 1000000) [hF, eHb, hlt]
  have hn1 := dEns_nth hlt
  have hal : acc.length = i := by rw [hacc, List.length_take]; omega
  have hw : IntKind.i64.wrap ((i : Int) + 1) = (i + 1 : Nat) := by rw [IntWalk.i64_in _ (by omega)]; rfl
  have c1 : (i + 1) * 16 ≤ 140737488355328 := by omega
  have c2 : i ≤ 9223372036854775806 := by omega
  have hp := dEns_push acc h.weak[i].1 h.weak[i].2
  have hm0 : (dEns acc).mid 0 i = dEns acc := sq_mid_all _ _ (by simp; omega)
  have hm1 : (dEns (acc ++ [(h.weak[i].1, h.weak[i].2)])).mid 0 (i + 1) = dEns (acc ++ [(h.weak[i].1, h.weak[i].2)]) := sq_mid_all _ _ (by simp; omega)
  have hst : acc ++ [(h.weak[i].1, h.weak[i].2)] = h.weak.take (i + 1) := by rw [hacc, take_succ_at hlt]
  repeat first|refine n1 ?_|refine n2 ?_|refine n3 ?_|refine n4 ?_|refine n5 ?_|refine n6 ?_|((first|refine rg 4 [0, 3, 4] [0, 3, 4] [] ?_|(refine dr 5 0 [0, 3, 4] [0, 3, 4] [] [⟨0, 8, 524288, 5⟩, ⟨0, 1, 1048576, 5⟩, ⟨2, 1048576, 2097152, 5⟩, ⟨4, 2097152, 4194304, 5⟩, ⟨8, 4194304, 8388608, 6⟩, ⟨0, 16, 16777216, 5⟩, ⟨48, 25165824, 33554432, 5⟩, ⟨64, 33554432, 67108864, 5⟩, ⟨128, 67108864, 134217728, 6⟩, ⟨0, 1, 268435456, 5⟩, ⟨512, 268435456, 536870912, 5⟩, ⟨1024, 536870912, 1073741824, 5⟩, ⟨2048, 1073741824, 2147483648, 6⟩, ⟨0, 16, 4294967296, 5⟩, ⟨12288, 6442450944, 8589934592, 5⟩, ⟨16384, 8589934592, 17179869184, 5⟩, ⟨32768, 17179869184, 34359738368, 6⟩, ⟨65792, 34493956096, 68719476736, 5⟩, ⟨131072, 68719476736, 137438953472, 4⟩, ⟨262145, 137439477760, 274877906944, 0⟩, ⟨1048575, 274877906944, 8, 5⟩] (.take 0 (.take 1 (.take 2 (.take 3 (.take 4 (.take 5 (.take 6 (.take 7 (.take 8 (.take 9 (.take 10 (.take 11 (.take 12 (.take 13 (.take 14 (.take 15 (.take 16 (.take 17 (.fork (.alt 18 (.fork (.alt 19 (.take 20 (.done)) (.nil))) (.nil))))))))))))))))))))) (.run [0, 1, 2, 3, 4, 5, 6, 7, 8, 9, 10, 11, 12, 13, 14, 15, 16, 17, 18, 19, 20] (.done)) ?_;simp only [drs])|refine nc ?_);simp (maxSteps := 1000000) [hF, eHb, hn1, hlt, c1, c2, hp, hm0, hm1, hw])
  refine nextK.of [0, 3, 4] [0] (m - 1) (by omega) (by simp [hF]) ?_
  exact ⟨i + 1, _, by omega, hst, by simp⟩
 ·refine (no_ok h).go [] (by simp (maxSteps := 1000000) [hF, eHb, hlt]) ?_;rintro av X κ ⟨rfl, rfl, rfl⟩;simp (maxSteps := 1000000) [hF, eHb, hlt]
  have hf : acc = h.weak := by rw [hacc, List.take_of_length_le (by omega)]
  have hi2 : i = h.weak.length := by omega
  repeat first|refine n1 ?_|refine n7 ?_|((first|refine rg 6 [3] [2] [] ?_|refine nc ?_);simp (maxSteps := 1000000) [hF])
  (try refine nr ?_);(repeat first|refine nb_ ?_|refine nl_ ?_);refine endK.o [2] [0] [] ?_;simp [hF, retK, covers, mpre, hf, hi2]

/- (*cabochon/cabochonref27.Heap).Remembered -/
theorem eremembered_ok (h : Hp) (k : Ok h) : Meets Try.prog 57 [] (.cons (avE h) .nil) fun av X κ => av = .sub 0 [] 0 (remembOf h).length false ∧ X = [.sl true () 1 (dInts (remembOf h))] ∧ κ = [] := by
 obtain ⟨b1, b2, b3, b4⟩ := k.lens
 refine fb Try.func57 Try.ntmps57 [.tmp 2] fun w0 I0 F0 hF => ?_
 repeat first|refine n1 ?_|((first|refine rg 0 [0] [0] [] ?_|refine rg 1 [0] [0, 3] [] ?_);simp (maxSteps := 1000000) [hF])
 refine VS.hold0 3 1 (by simp) ?_
 repeat first|refine n3 ?_|(refine rg 2 [0, 3] [0, 3, 4] [] ?_;simp (maxSteps := 1000000) [hF])
 refine VS.rounds (fun m st => ∃ (i : Nat) (acc : List Int), i + m = h.old.length ∧ acc = ((h.old.take i).filter (remB h)).map (·.handle) ∧ st = ⟨[(0, avE h), (3, .sub 0 [] 0 acc.length false), (4, avInt i)], [.sl true () 1 (dInts acc)], [], []⟩) ⟨h.old.length, 0, [], by omega, by simp, by simp⟩ ?_
 rintro m st ⟨i, acc, hi, hacc, rfl⟩
 have hal : acc.length ≤ 1000 := by
  rw [hacc, List.length_map]
  exact Nat.le_trans (List.length_filter_le _ _) (by rw [List.length_take]; omega)
 repeat first|refine n1 ?_|(refine rg 3 [0, 3, 4] [0, 3, 4, 16] [(3, 8)] ?_;simp (maxSteps := 1000000) [hF])
 by_cases hlt : i < h.old.length
 ·refine (no_ok h).go [] (by simp (maxSteps := 1000000) [hF, eHb, hlt]) ?_;rintro av X κ ⟨rfl, rfl, rfl⟩;simp (maxSteps := 1000000) [hF, eHb, hlt]
  have hn1 := dObs_nth (o := false) hlt
  have hw : IntKind.i64.wrap ((i : Int) + 1) = (i + 1 : Nat) := by rw [IntWalk.i64_in _ (by omega)]; rfl
  have hsl := (k.small h.old[i] (by simp [obs])).2.2.2.1
  have c1 : (acc.length + 1) * 8 ≤ 140737488355328 := by omega
  have c2 : acc.length ≤ 9223372036854775806 := by omega
  have hm1 : (dInts (acc ++ [h.old[i].handle])).mid 0 (acc.length + 1) = dInts (acc ++ [h.old[i].handle]) := sq_mid_all _ _ (by simp)
  repeat first|refine n1 ?_|refine n2 ?_|refine n3 ?_|((first|refine rg 5 [0, 3, 4] [0, 3, 4, 27] [] ?_|refine nc ?_);simp (maxSteps := 1000000) [hF, eHb, hn1, hlt])
  cases hb : remB h h.old[i] with
  | true =>
   have hst : ((h.old.take (i + 1)).filter (remB h)).map (·.handle) = acc ++ [h.old[i].handle] := by
    rw [List.take_add_one, List.getElem?_eq_getElem hlt, List.filter_append, List.map_append, ← hacc]; simp [hb]
   refine (erem_ok h k h.old[i] hsl).go [] (by simp (maxSteps := 1000000) [hF, hb, eHb]) ?_;rintro av X κ ⟨rfl, rfl, rfl⟩;simp (maxSteps := 1000000) [hF, hb, eHb]
   repeat first|refine n4 ?_|refine n5 ?_|refine n6 ?_|((first|refine rg 4 [0, 3, 4] [0, 3, 4] [] ?_|refine rg 6 [0, 3, 4] [0, 3, 4] [] ?_|refine nc ?_);simp (maxSteps := 1000000) [hF, eHb, hn1, hlt, c1, c2, hm1, hw])
   refine nextK.of [0, 3, 4] [0] (m - 1) (by omega) (by simp [hF]) ?_
   exact ⟨i + 1, _, by omega, hst.symm, by simp⟩
  | false =>
   have hst : ((h.old.take (i + 1)).filter (remB h)).map (·.handle) = acc := by
    rw [List.take_add_one, List.getElem?_eq_getElem hlt, List.filter_append, List.map_append, ← hacc]; simp [hb]
   refine (erem_ok h k h.old[i] hsl).go [] (by simp (maxSteps := 1000000) [hF, hb, eHb]) ?_;rintro av X κ ⟨rfl, rfl, rfl⟩;simp (maxSteps := 1000000) [hF, hb, eHb]
   repeat first|refine n2 ?_|refine n4 ?_|refine n5 ?_|refine n6 ?_|((first|refine rg 4 [0, 3, 4] [0, 3, 4] [] ?_|refine nc ?_);simp (maxSteps := 1000000) [hF, hw])
   refine nextK.of [0, 3, 4] [0] (m - 1) (by omega) (by simp [hF]) ?_
   exact ⟨i + 1, acc, by omega, hst.symm, by simp⟩
 ·refine (no_ok h).go [] (by simp (maxSteps := 1000000) [hF, eHb, hlt]) ?_;rintro av X κ ⟨rfl, rfl, rfl⟩;simp (maxSteps := 1000000) [hF, eHb, hlt]
  have hf : acc.mergeSort leI = remembOf h := by rw [hacc, List.take_of_length_le (by omega)]; rfl
  have hfl : acc.length = (remembOf h).length := by rw [← hf]; simp
  repeat first|refine n1 ?_|refine n7 ?_|((first|refine rg 7 [3] [2] [] ?_|refine nc ?_);simp (maxSteps := 1000000) [hF])
  refine (ascending_c acc false (by omega)).go [(0, [])] (by simp (maxSteps := 1000000) [hF, ascend_eq, hf]) ?_;rintro av X κ ⟨rfl, rfl, rfl⟩;simp (maxSteps := 1000000) [hF, ascend_eq, hf]
  (try refine nr ?_);(repeat first|refine nb_ ?_|refine nl_ ?_);refine endK.o [2] [1] [] ?_;simp [hF, retK, covers, mpre, hf, hfl]

/- (*cabochon/cabochonref27.Heap).All -/
theorem eall_ok (h : Hp) (k : Ok h) : Meets Try.prog 56 [] (.cons (avE h) .nil) fun av X κ => av = .sub 0 [] 0 (allOf h).length false ∧ X = [.sl true () 1 (dInts (allOf h))] ∧ κ = [] := by
 obtain ⟨b1, b2, b3, b4⟩ := k.lens
 refine fb Try.func56 Try.ntmps56 [.tmp 2] fun w0 I0 F0 hF => ?_
 repeat first|refine n1 ?_|((first|refine rg 0 [0] [0] [] ?_|refine rg 1 [0] [0, 3] [] ?_);simp (maxSteps := 1000000) [hF])
 refine VS.hold0 3 1 (by simp) ?_
 repeat first|refine n3 ?_|(refine rg 2 [0, 3] [0, 3, 4] [] ?_;simp (maxSteps := 1000000) [hF])
 refine VS.rounds (fun m st => ∃ (i : Nat) (acc : List Int), i + m = h.young.length ∧ acc = (h.young.take i).map (·.handle) ∧ st = ⟨[(0, avE h), (3, .sub 0 [] 0 acc.length false), (4, avInt i)], [.sl true () 1 (dInts acc)], [], []⟩) ⟨h.young.length, 0, [], by omega, by simp, by simp⟩ ?_
 rintro m st ⟨i, acc, hi, hacc, rfl⟩
 have hal : acc.length ≤ 1000 := by rw [hacc]; simp; omega
 repeat first|refine n1 ?_|(refine rg 3 [0, 3, 4] [0, 3, 4, 17] [(3, 9)] ?_;simp (maxSteps := 1000000) [hF])
 by_cases hlt : i < h.young.length
 ·refine (no_ok h).go [] (by simp (maxSteps := 1000000) [hF, eHb, hlt]) ?_;rintro av X κ ⟨rfl, rfl, rfl⟩;simp (maxSteps := 1000000) [hF, eHb, hlt]
  have hn1 := dObs_nth (o := false) hlt
  have hw : IntKind.i64.wrap ((i : Int) + 1) = (i + 1 : Nat) := by rw [IntWalk.i64_in _ (by omega)]; rfl
  have c1 : (acc.length + 1) * 8 ≤ 140737488355328 := by omega
  have c2 : acc.length ≤ 9223372036854775806 := by omega
  have hm1 : (dInts (acc ++ [h.young[i].handle])).mid 0 (acc.length + 1) = dInts (acc ++ [h.young[i].handle]) := sq_mid_all _ _ (by simp)
  repeat first|refine n1 ?_|refine n2 ?_|refine n3 ?_|refine n4 ?_|refine n5 ?_|refine n6 ?_|((first|refine rg 4 [0, 3, 4] [0, 3, 4] [] ?_|refine rg 5 [0, 3, 4] [0, 3, 4] [] ?_|refine nc ?_);simp (maxSteps := 1000000) [hF, eHb, hn1, hlt, c1, c2, hm1, hw])
  refine nextK.of [0, 3, 4] [0] (m - 1) (by omega) (by simp [hF]) ?_
  exact ⟨i + 1, acc ++ [h.young[i].handle], by omega, by rw [hacc, take_map_succ _ hlt], by simp⟩
 ·refine (no_ok h).go [] (by simp (maxSteps := 1000000) [hF, eHb, hlt]) ?_;rintro av X κ ⟨rfl, rfl, rfl⟩;simp (maxSteps := 1000000) [hF, eHb, hlt]
  have hf : acc = h.young.map (·.handle) := by rw [hacc, List.take_of_length_le (by omega)]
  repeat first|refine n1 ?_|refine n3 ?_|refine n7 ?_|((first|refine rg 6 [0, 3] [0, 3, 5] [] ?_|refine nc ?_);simp (maxSteps := 1000000) [hF])
  refine VS.rounds (fun m2 st => ∃ (i : Nat) (acc : List Int), i + m2 = h.old.length ∧ acc = h.young.map (·.handle) ++ (h.old.take i).map (·.handle) ∧ st = ⟨[(0, avE h), (3, .sub 0 [] 0 acc.length false), (5, avInt i)], [.sl true () 1 (dInts acc)], [], []⟩) ⟨h.old.length, 0, acc, by omega, by simp [hf], by simp⟩ ?_
  clear hacc hf hal hi hlt
  rintro m2 st ⟨i, acc, hi, hacc, rfl⟩
  have hal : acc.length ≤ 2000 := by rw [hacc]; simp; omega
  repeat first|refine n1 ?_|(refine rg 7 [0, 3, 5] [0, 3, 5, 42] [(3, 34)] ?_;simp (maxSteps := 1000000) [hF])
  by_cases hlt : i < h.old.length
  ·refine (no_ok h).go [] (by simp (maxSteps := 1000000) [hF, eHb, hlt]) ?_;rintro av X κ ⟨rfl, rfl, rfl⟩;simp (maxSteps := 1000000) [hF, eHb, hlt]
   have hn1 := dObs_nth (o := false) hlt
   have hw : IntKind.i64.wrap ((i : Int) + 1) = (i + 1 : Nat) := by rw [IntWalk.i64_in _ (by omega)]; rfl
   have c1 : (acc.length + 1) * 8 ≤ 140737488355328 := by omega
   have c2 : acc.length ≤ 9223372036854775806 := by omega
   have hm1 : (dInts (acc ++ [h.old[i].handle])).mid 0 (acc.length + 1) = dInts (acc ++ [h.old[i].handle]) := sq_mid_all _ _ (by simp)
   repeat first|refine n1 ?_|refine n2 ?_|refine n3 ?_|refine n4 ?_|refine n5 ?_|refine n6 ?_|((first|refine rg 8 [0, 3, 5] [0, 3, 5] [] ?_|refine rg 9 [0, 3, 5] [0, 3, 5] [] ?_|refine nc ?_);simp (maxSteps := 1000000) [hF, eHb, hn1, hlt, c1, c2, hm1, hw])
   refine nextK.of [0, 3, 5] [0] (m2 - 1) (by omega) (by simp [hF]) ?_
   exact ⟨i + 1, acc ++ [h.old[i].handle], by omega, by rw [hacc, take_map_succ _ hlt, List.append_assoc], by simp⟩
  ·refine (no_ok h).go [] (by simp (maxSteps := 1000000) [hF, eHb, hlt]) ?_;rintro av X κ ⟨rfl, rfl, rfl⟩;simp (maxSteps := 1000000) [hF, eHb, hlt]
   have hA : acc = (obs h).map (·.handle) := by rw [hacc, List.take_of_length_le (by omega)]; simp [obs]
   have hf : acc.mergeSort leI = allOf h := by rw [hA]; rfl
   have hfl : acc.length = (allOf h).length := by rw [← hf]; simp
   repeat first|refine n1 ?_|refine n7 ?_|((first|refine rg 10 [3] [2] [] ?_|refine nc ?_);simp (maxSteps := 1000000) [hF])
   refine (ascending_c acc false (by omega)).go [(0, [])] (by simp (maxSteps := 1000000) [hF, ascend_eq, hf]) ?_;rintro av X κ ⟨rfl, rfl, rfl⟩;simp (maxSteps := 1000000) [hF, ascend_eq, hf]
   (try refine nr ?_);(repeat first|refine nb_ ?_|refine nl_ ?_);refine endK.o [2] [1] [] ?_;simp [hF, retK, covers, mpre, hf, hfl]
/- cabochon/cabochonref27.has -/
theorem ehas_c (ex : Bool) (l : List Int) (v : Int) (hl : l.length ≤ 100000000) : Meets Try.prog 81 [.sl true () 1 (dInts l)] (.cons (.sub 0 [] 0 l.length ex) (.cons (avInt v) .nil)) fun av X κ => av = avBool (hasN l v) ∧ X = [.sl true () 1 (dInts l)] ∧ κ = [] :=
 warmL (ehas_ok ex l v hl) (by simp only [AV.chilled, dInts_mid, freeze_ints]) rfl (by simp) rfl
theorem hasN_no {l : List Int} {v : Int} (h : ¬ v ∈ l) : hasN l v = false := by
 cases e : hasN l v with
 | false => rfl
 | true => exact absurd (hasN_iff.1 e) h
theorem bfs_pass {sl : Int → List Int} {skip : Int → Bool} {m : Nat} {x : Int} {r out W : List Int} (h : bfs sl skip m (x :: r) out = W) (hm : 0 < m) (hx : skip x = true ∨ x ∈ out) : bfs sl skip (m - 1) r out = W := by
 obtain ⟨n, rfl⟩ : ∃ n, m = n + 1 := ⟨m - 1, by omega⟩
 rw [bfs, if_pos hx] at h
 exact h
theorem bfs_take {sl : Int → List Int} {skip : Int → Bool} {m : Nat} {x : Int} {r out W : List Int} (h : bfs sl skip m (x :: r) out = W) (hm : 0 < m) (hx : skip x = false) (ho : ¬ x ∈ out) : bfs sl skip (m - 1) (r ++ sl x) (out ++ [x]) = W := by
 obtain ⟨n, rfl⟩ : ∃ n, m = n + 1 := ⟨m - 1, by omega⟩
 rw [bfs, if_neg (by simp [hx, ho])] at h
 exact h
theorem bfs_end {sl : Int → List Int} {skip : Int → Bool} {m : Nat} {out W : List Int} (h : bfs sl skip m [] out = W) : W = out := by
 cases m <;> exact h.symm
theorem nodup_le : ∀ {l m : List Int}, l.Nodup → (∀ x ∈ l, x ∈ m) → l.length ≤ m.length
 | [], _, _, _ => Nat.zero_le _
 | a :: l, m, h1, h2 => by
  have ha := h2 a (by simp)
  obtain ⟨h3, h4⟩ := List.nodup_cons.1 h1
  have h5 := nodup_le (m := m.erase a) h4 (fun x hx => (List.mem_erase_of_ne (fun e => by subst e; exact h3 hx)).2 (h2 x (by simp [hx])))
  rw [List.length_erase_of_mem ha] at h5
  have := List.length_pos_of_mem ha
  simp only [List.length_cons]; omega
theorem slots_ok {h : Hp} (k : Ok h) {x : Int} (hx : there h x = true) : ∀ y ∈ slotsOf h x, y = 0 ∨ there h y = true := by
 obtain ⟨o, ho, rfl⟩ := there_obj hx
 have := k.small o ho
 rw [slotsOf, slotsL_mem k.dist ho]; exact this.2.2.2.2.2
/- (*cabochon/cabochonref27.Heap).reach -/
theorem ereach_n (h : Hp) (k : Ok h) (from_ : List Int) (ex : Bool) (minor : Bool) (hfl : from_.length ≤ 10000000) (hv : ∀ x ∈ from_, x = 0 ∨ there h x = true) : Meets Try.prog 52 [] (.cons (avE h) (.cons (.imm 1 (dInts from_) ex) (.cons (.nils 1) (.cons (avBool (!minor)) .nil))))
  fun av X κ => av = .sub 0 [] 0 (walkE h minor from_ []).length false ∧ X = [.sl true () 1 (dInts (walkE h minor from_ []))] ∧ κ = [] := by
 obtain ⟨b1, b2, b3, b4⟩ := k.lens
 have hlo : ∀ o, lftO (obs h) o ≤ 2000 := fun o => by have e1 := lft_le (obs h) o; have e2 : usedN (obs h) = usedN h.young + usedN h.old := usedN_app _ _; omega
 have c1 : from_.length * 8 ≤ 140737488355328 := by omega
 have c2 : from_.length ≤ 9223372036854775807 := by omega
 refine fb Try.func52 Try.ntmps52 [.tmp 8] fun w0 I0 F0 hF => ?_
 repeat first|refine n1 ?_|(refine rg 0 [0, 1, 2, 3] [0, 1, 2, 3] [] ?_;simp (maxSteps := 1000000) [hF])
 refine VS.hold0 2 1 (by simp) ?_
 repeat first|refine n1 ?_|refine n3 ?_|((first|refine rg 1 [0, 1, 2, 3] [0, 2, 3, 9] [] ?_|refine rg 2 [0, 2, 3, 9] [0, 2, 3, 9, 10] [] ?_);simp (maxSteps := 1000000) [hF, c1, c2])
 refine VS.rounds (fun m st => ∃ (i : Nat) (todo out : List Int), i + m = todo.length + lftO (obs h) out ∧ bfs (slotsOf h) (skipE h minor) m (todo.drop i) out = walkE h minor from_ [] ∧ todo.length + lftO (obs h) out ≤ 10002000 ∧ out.length ≤ 1000000 + i ∧ (∀ x ∈ todo, x = 0 ∨ there h x = true) ∧ i ≤ todo.length ∧
   st = ⟨[(0, avE h), (2, .sub 0 [] 0 out.length false), (3, avBool (!minor)), (9, .sub 1 [] 0 todo.length false), (10, avInt i)], [.sl true () 1 (dInts out), .sl true () 1 (dInts todo)], [], []⟩)
  ⟨from_.length + lftO (obs h) [], 0, from_, [], by omega, by simp [walkE], by have := hlo []; omega, by simp, hv, by omega, by simp⟩ ?_
 rintro m st ⟨i, todo, out, hi, hb, hbd, hol, hall, hit, rfl⟩
 repeat first|refine n1 ?_|((first|refine rg 3 [0, 2, 3, 9, 10] [0, 2, 3, 9, 10, 18] [] ?_|refine nc ?_);simp (maxSteps := 1000000) [hF])
 refine ⟨fun hlt => ?_, fun hge => ?_⟩
 ·have hn := dInts_nth hlt
  have hw : IntKind.i64.wrap ((i : Int) + 1) = (i + 1 : Nat) := by rw [IntWalk.i64_in _ (by omega)]; rfl
  have hdr : todo.drop i = todo[i] :: todo.drop (i + 1) := List.drop_eq_getElem_cons hlt
  have hdr2 : ∀ z : List Int, (todo ++ z).drop (i + 1) = todo.drop (i + 1) ++ z := fun z => List.drop_append_of_le_length (by omega)
  have hall2 : ∀ x, there h x = true → ∀ y ∈ todo ++ slotsOf h x, y = 0 ∨ there h y = true := fun x hx y hy => by
   rcases List.mem_append.1 hy with hy | hy
   ·exact hall y hy
   ·exact slots_ok k hx y hy
  rw [hdr] at hb
  by_cases hz : todo[i] = 0
  ·have hb2 := bfs_pass hb (by omega) (.inl (by simp [skipE, hz]))
   repeat first|refine n1 ?_|refine n2 ?_|refine n3 ?_|refine n4 ?_|refine n6 ?_|refine n7 ?_|refine n8 ?_|((first|refine rg 4 [0, 2, 3, 9, 10] [0, 2, 3, 9, 10] [] ?_|refine rg 5 [0, 2, 3, 9, 10] [0, 2, 3, 9, 10, 11] [] ?_|refine rg 6 [0, 2, 3, 9, 10, 11] [0, 2, 3, 9, 10, 11, 44] [(2, 27), (7, 32), (10, 35)] ?_|refine nc ?_);simp (maxSteps := 1000000) [hF, hn, hlt, hz, hw])
   refine nextK.of [0, 2, 3, 9, 10] [0, 1] (m - 1) (by omega) (by simp [hF]) ?_
   exact ⟨i + 1, todo, out, by omega, hb2, hbd, by omega, hall, by omega, by simp⟩
  ·repeat first|refine n1 ?_|refine n2 ?_|refine n3 ?_|((first|refine rg 5 [0, 2, 3, 9, 10] [0, 2, 3, 9, 10, 11] [] ?_|refine rg 6 [0, 2, 3, 9, 10, 11] [0, 2, 3, 9, 10, 11, 44] [(2, 27), (7, 32), (10, 35)] ?_);simp (maxSteps := 1000000) [hF, hn, hlt, hz])
   by_cases hin : todo[i] ∈ out
   ·have hh := hasN_iff.2 hin
    have hb2 := bfs_pass hb (by omega) (.inr hin)
    refine (ehas_c false out todo[i] (by omega)).go [(0, [])] (by simp (maxSteps := 1000000) [hF, hh]) ?_;rintro av X κ ⟨rfl, rfl, rfl⟩;simp (maxSteps := 1000000) [hF, hh]
    repeat first|refine n4 ?_|refine n6 ?_|refine n7 ?_|refine n8 ?_|((first|refine rg 4 [0, 2, 3, 9, 10] [0, 2, 3, 9, 10] [] ?_|refine nc ?_);simp (maxSteps := 1000000) [hF, hw])
    refine nextK.of [0, 2, 3, 9, 10] [0, 1] (m - 1) (by omega) (by simp [hF]) ?_
    exact ⟨i + 1, todo, out, by omega, hb2, hbd, by omega, hall, by omega, by simp⟩
   ·have hh := hasN_no hin
    cases minor with
    | false =>
     refine (ehas_c false out todo[i] (by omega)).go [(0, [])] (by simp (maxSteps := 1000000) [hF, hh]) ?_;rintro av X κ ⟨rfl, rfl, rfl⟩;simp (maxSteps := 1000000) [hF, hh]
     have hfacts := hall _ (List.getElem_mem hlt)
     have hth : there h todo[i] = true := hfacts.resolve_left hz
     have hb2 := bfs_take hb (by omega) (by simp [skipE, hz]) hin
     rw [← hdr2 (slotsOf h todo[i])] at hb2
     have hl2 := lft_new k.dist (x := todo[i]) (by rw [← there_obs]; exact hth) hin
     have hl3 : lftO (obs h) (out ++ [todo[i]]) + (slotsOf h todo[i]).length = lftO (obs h) out := hl2
     have hs8 := slots8 k todo[i]
     have hp1 : (dInts (out ++ [todo[i]])).mid 0 (out.length + 1) = dInts (out ++ [todo[i]]) := sq_mid_all _ _ (by simp)
     have hp2 : (dInts (todo ++ slotsOf h todo[i])).mid 0 (todo.length + (slotsOf h todo[i]).length) = dInts (todo ++ slotsOf h todo[i]) := sq_mid_all _ _ (by simp)
     have c1 : (out.length + 1) * 8 ≤ 140737488355328 := by omega
     have c2 : out.length ≤ 9223372036854775806 := by omega
     have c3 : (todo.length + (slotsOf h todo[i]).length) * 8 ≤ 140737488355328 := by omega
     have c4 : todo.length + (slotsOf h todo[i]).length ≤ 9223372036854775807 := by omega
     repeat first|refine n1 ?_|refine n2 ?_|((first|refine rg 7 [0, 2, 3, 9, 10, 11] [0, 2, 3, 9, 10, 11] [] ?_|refine rg 8 [0, 2, 3, 9, 10, 11] [0, 2, 3, 9, 10] [] ?_|refine nc ?_);simp (maxSteps := 1000000) [hF, hz, hp1, c1, c2])
     refine (eslots_ok h k todo[i] hth).go [] (by simp (maxSteps := 1000000) [hF]) ?_;rintro av X κ ⟨rfl, rfl, rfl⟩;simp (maxSteps := 1000000) [hF]
     repeat first|refine n4 ?_|refine n5 ?_|refine n6 ?_|refine ⟨⟨by omega, by omega⟩, ?_⟩|(refine rg 4 [0, 2, 3, 9, 10] [0, 2, 3, 9, 10] [] ?_;simp (maxSteps := 1000000) [hF, hp2, c3, c4, hw])
     refine nextK.of [0, 2, 3, 9, 10] [0, 1] (m - 1) (by omega) (by simp [hF]) ?_
     exact ⟨i + 1, todo ++ slotsOf h todo[i], out ++ [todo[i]], by simp; omega, hb2, by simp; omega, by simp; omega, hall2 _ hth, by simp; omega, by simp⟩
    | true =>
     refine (ehas_c false out todo[i] (by omega)).go [(0, [])] (by simp (maxSteps := 1000000) [hF, hh, eHb]) ?_;rintro av X κ ⟨rfl, rfl, rfl⟩;simp (maxSteps := 1000000) [hF, hh, eHb]
     cases ho : inL h.old todo[i] with
     | true =>
      obtain ⟨j, hj, hjx, _⟩ := inL_at ho
      have hb2 := bfs_pass hb (by omega) (.inl (by simp [skipE, ho]))
      refine (eindex_ok false h.old todo[i] (by omega)).go [] (by simp (maxSteps := 1000000) [hF, hjx]) ?_;rintro av X κ ⟨rfl, rfl, rfl⟩;simp (maxSteps := 1000000) [hF, hjx]
      repeat first|refine n4 ?_|refine n6 ?_|refine n7 ?_|refine n8 ?_|((first|refine rg 4 [0, 2, 3, 9, 10] [0, 2, 3, 9, 10] [] ?_|refine nc ?_);simp (maxSteps := 1000000) [hF, hw])
      refine nextK.of [0, 2, 3, 9, 10] [0, 1] (m - 1) (by omega) (by simp [hF]) ?_
      exact ⟨i + 1, todo, out, by omega, hb2, hbd, by omega, hall, by omega, by simp⟩
     | false =>
      have hjx := ixO_none ho
      refine (eindex_ok false h.old todo[i] (by omega)).go [] (by simp (maxSteps := 1000000) [hF, hjx]) ?_;rintro av X κ ⟨rfl, rfl, rfl⟩;simp (maxSteps := 1000000) [hF, hjx]
      have hfacts := hall _ (List.getElem_mem hlt)
      have hth : there h todo[i] = true := hfacts.resolve_left hz
      have hb2 := bfs_take hb (by omega) (by simp [skipE, hz, ho]) hin
      rw [← hdr2 (slotsOf h todo[i])] at hb2
      have hl2 := lft_new k.dist (x := todo[i]) (by rw [← there_obs]; exact hth) hin
      have hl3 : lftO (obs h) (out ++ [todo[i]]) + (slotsOf h todo[i]).length = lftO (obs h) out := hl2
      have hs8 := slots8 k todo[i]
      have hp1 : (dInts (out ++ [todo[i]])).mid 0 (out.length + 1) = dInts (out ++ [todo[i]]) := sq_mid_all _ _ (by simp)
      have hp2 : (dInts (todo ++ slotsOf h todo[i])).mid 0 (todo.length + (slotsOf h todo[i]).length) = dInts (todo ++ slotsOf h todo[i]) := sq_mid_all _ _ (by simp)
      have c1 : (out.length + 1) * 8 ≤ 140737488355328 := by omega
      have c2 : out.length ≤ 9223372036854775806 := by omega
      have c3 : (todo.length + (slotsOf h todo[i]).length) * 8 ≤ 140737488355328 := by omega
      have c4 : todo.length + (slotsOf h todo[i]).length ≤ 9223372036854775807 := by omega
      repeat first|refine n1 ?_|refine n2 ?_|((first|refine rg 7 [0, 2, 3, 9, 10, 11] [0, 2, 3, 9, 10, 11] [] ?_|refine rg 8 [0, 2, 3, 9, 10, 11] [0, 2, 3, 9, 10] [] ?_|refine nc ?_);simp (maxSteps := 1000000) [hF, hz, hp1, c1, c2])
      refine (eslots_ok h k todo[i] hth).go [] (by simp (maxSteps := 1000000) [hF]) ?_;rintro av X κ ⟨rfl, rfl, rfl⟩;simp (maxSteps := 1000000) [hF]
      repeat first|refine n4 ?_|refine n5 ?_|refine n6 ?_|refine ⟨⟨by omega, by omega⟩, ?_⟩|(refine rg 4 [0, 2, 3, 9, 10] [0, 2, 3, 9, 10] [] ?_;simp (maxSteps := 1000000) [hF, hp2, c3, c4, hw])
      refine nextK.of [0, 2, 3, 9, 10] [0, 1] (m - 1) (by omega) (by simp [hF]) ?_
      exact ⟨i + 1, todo ++ slotsOf h todo[i], out ++ [todo[i]], by simp; omega, hb2, by simp; omega, by simp; omega, hall2 _ hth, by simp; omega, by simp⟩
 ·have hd : todo.drop i = [] := List.drop_of_length_le (by omega)
  rw [hd] at hb
  have hf := bfs_end hb
  repeat first|refine n1 ?_|refine n7 ?_|(refine rg 9 [2] [8] [] ?_;simp (maxSteps := 1000000) [hF])
  (try refine nr ?_);(repeat first|refine nb_ ?_|refine nl_ ?_);refine endK.o [8] [0] [] ?_;simp [hF, retK, covers, mpre, hf]
/- (*cabochon/cabochonref27.Heap).reach -/
theorem ereach_o (h : Hp) (k : Ok h) (from_ out0 : List Int) (ex : Bool) (minor : Bool) (hfl : from_.length ≤ 10000000) (hol0 : out0.length ≤ 1000000) (hv : ∀ x ∈ from_, x = 0 ∨ there h x = true) : Meets Try.prog 52 [.sl true () 1 (dInts out0)] (.cons (avE h) (.cons (.imm 1 (dInts from_) ex) (.cons (.sub 0 [] 0 out0.length false) (.cons (avBool (!minor)) .nil))))
  fun av X κ => av = .sub 1 [] 0 (walkE h minor from_ out0).length false ∧ X = [.junk (), .sl true () 1 (dInts (walkE h minor from_ out0))] ∧ κ = [(0, [])] := by
 obtain ⟨b1, b2, b3, b4⟩ := k.lens
 have hlo : ∀ o, lftO (obs h) o ≤ 2000 := fun o => by have e1 := lft_le (obs h) o; have e2 : usedN (obs h) = usedN h.young + usedN h.old := usedN_app _ _; omega
 have c1 : from_.length * 8 ≤ 140737488355328 := by omega
 have c2 : from_.length ≤ 9223372036854775807 := by omega
 refine fb Try.func52 Try.ntmps52 [.tmp 8] fun w0 I0 F0 hF => ?_
 repeat first|refine n1 ?_|(refine rg 0 [0, 1, 2, 3] [0, 1, 2, 3] [] ?_;simp (maxSteps := 1000000) [hF])
 refine ghostL 0 [] ?_;simp (maxSteps := 1000000) [hF, St.lift, AV.lift, liftPl, stripP, nodeAV, isNode]
 refine VS.forget ?_;simp [hF, St.forget]
 repeat first|refine n1 ?_|refine n3 ?_|((first|refine rg 1 [0, 1, 2, 3] [0, 2, 3, 9] [] ?_|refine rg 2 [0, 2, 3, 9] [0, 2, 3, 9, 10] [] ?_);simp (maxSteps := 1000000) [hF, c1, c2])
 refine VS.rounds (fun m st => ∃ (i : Nat) (todo out : List Int), i + m = todo.length + lftO (obs h) out ∧ bfs (slotsOf h) (skipE h minor) m (todo.drop i) out = walkE h minor from_ out0 ∧ todo.length + lftO (obs h) out ≤ 10002000 ∧ out.length ≤ 1000000 + i ∧ (∀ x ∈ todo, x = 0 ∨ there h x = true) ∧ i ≤ todo.length ∧
   st = ⟨[(0, avE h), (2, .sub 1 [] 0 out.length false), (3, avBool (!minor)), (9, .sub 2 [] 0 todo.length false), (10, avInt i)], [.junk (), .sl true () 1 (dInts out), .sl true () 1 (dInts todo)], [(0, [])], []⟩)
  ⟨from_.length + lftO (obs h) out0, 0, from_, out0, by omega, by simp [walkE], by have := hlo out0; omega, by omega, hv, by omega, by simp⟩ ?_
 rintro m st ⟨i, todo, out, hi, hb, hbd, hol, hall, hit, rfl⟩
 repeat first|refine n1 ?_|((first|refine rg 3 [0, 2, 3, 9, 10] [0, 2, 3, 9, 10, 18] [] ?_|refine nc ?_);simp (maxSteps := 1000000) [hF])
 refine ⟨fun hlt => ?_, fun hge => ?_⟩
 ·have hn := dInts_nth hlt
  have hw : IntKind.i64.wrap ((i : Int) + 1) = (i + 1 : Nat) := by rw [IntWalk.i64_in _ (by omega)]; rfl
  have hdr : todo.drop i = todo[i] :: todo.drop (i + 1) := List.drop_eq_getElem_cons hlt
  have hdr2 : ∀ z : List Int, (todo ++ z).drop (i + 1) = todo.drop (i + 1) ++ z := fun z => List.drop_append_of_le_length (by omega)
  have hall2 : ∀ x, there h x = true → ∀ y ∈ todo ++ slotsOf h x, y = 0 ∨ there h y = true := fun x hx y hy => by
   rcases List.mem_append.1 hy with hy | hy
   ·exact hall y hy
   ·exact slots_ok k hx y hy
  rw [hdr] at hb
  by_cases hz : todo[i] = 0
  ·have hb2 := bfs_pass hb (by omega) (.inl (by simp [skipE, hz]))
   repeat first|refine n1 ?_|refine n2 ?_|refine n3 ?_|refine n4 ?_|refine n6 ?_|refine n7 ?_|refine n8 ?_|((first|refine rg 4 [0, 2, 3, 9, 10] [0, 2, 3, 9, 10] [] ?_|refine rg 5 [0, 2, 3, 9, 10] [0, 2, 3, 9, 10, 11] [] ?_|refine rg 6 [0, 2, 3, 9, 10, 11] [0, 2, 3, 9, 10, 11, 44] [(2, 27), (7, 32), (10, 35)] ?_|refine nc ?_);simp (maxSteps := 1000000) [hF, hn, hlt, hz, hw])
   refine nextK.of [0, 2, 3, 9, 10] [0, 1, 2] (m - 1) (by omega) (by simp [hF]) ?_
   exact ⟨i + 1, todo, out, by omega, hb2, hbd, by omega, hall, by omega, by simp⟩
  ·repeat first|refine n1 ?_|refine n2 ?_|refine n3 ?_|((first|refine rg 5 [0, 2, 3, 9, 10] [0, 2, 3, 9, 10, 11] [] ?_|refine rg 6 [0, 2, 3, 9, 10, 11] [0, 2, 3, 9, 10, 11, 44] [(2, 27), (7, 32), (10, 35)] ?_);simp (maxSteps := 1000000) [hF, hn, hlt, hz])
   by_cases hin : todo[i] ∈ out
   ·have hh := hasN_iff.2 hin
    have hb2 := bfs_pass hb (by omega) (.inr hin)
    refine (ehas_c false out todo[i] (by omega)).go [(1, [])] (by simp (maxSteps := 1000000) [hF, hh]) ?_;rintro av X κ ⟨rfl, rfl, rfl⟩;simp (maxSteps := 1000000) [hF, hh]
    repeat first|refine n4 ?_|refine n6 ?_|refine n7 ?_|refine n8 ?_|((first|refine rg 4 [0, 2, 3, 9, 10] [0, 2, 3, 9, 10] [] ?_|refine nc ?_);simp (maxSteps := 1000000) [hF, hw])
    refine nextK.of [0, 2, 3, 9, 10] [0, 1, 2] (m - 1) (by omega) (by simp [hF]) ?_
    exact ⟨i + 1, todo, out, by omega, hb2, hbd, by omega, hall, by omega, by simp⟩
   ·have hh := hasN_no hin
    cases minor with
    | false =>
     refine (ehas_c false out todo[i] (by omega)).go [(1, [])] (by simp (maxSteps := 1000000) [hF, hh]) ?_;rintro av X κ ⟨rfl, rfl, rfl⟩;simp (maxSteps := 1000000) [hF, hh]
     have hfacts := hall _ (List.getElem_mem hlt)
     have hth : there h todo[i] = true := hfacts.resolve_left hz
     have hb2 := bfs_take hb (by omega) (by simp [skipE, hz]) hin
     rw [← hdr2 (slotsOf h todo[i])] at hb2
     have hl2 := lft_new k.dist (x := todo[i]) (by rw [← there_obs]; exact hth) hin
     have hl3 : lftO (obs h) (out ++ [todo[i]]) + (slotsOf h todo[i]).length = lftO (obs h) out := hl2
     have hs8 := slots8 k todo[i]
     have hp1 : (dInts (out ++ [todo[i]])).mid 0 (out.length + 1) = dInts (out ++ [todo[i]]) := sq_mid_all _ _ (by simp)
     have hp2 : (dInts (todo ++ slotsOf h todo[i])).mid 0 (todo.length + (slotsOf h todo[i]).length) = dInts (todo ++ slotsOf h todo[i]) := sq_mid_all _ _ (by simp)
     have c1 : (out.length + 1) * 8 ≤ 140737488355328 := by omega
     have c2 : out.length ≤ 9223372036854775806 := by omega
     have c3 : (todo.length + (slotsOf h todo[i]).length) * 8 ≤ 140737488355328 := by omega
     have c4 : todo.length + (slotsOf h todo[i]).length ≤ 9223372036854775807 := by omega
     repeat first|refine n1 ?_|refine n2 ?_|((first|refine rg 7 [0, 2, 3, 9, 10, 11] [0, 2, 3, 9, 10, 11] [] ?_|refine rg 8 [0, 2, 3, 9, 10, 11] [0, 2, 3, 9, 10] [] ?_|refine nc ?_);simp (maxSteps := 1000000) [hF, hz, hp1, c1, c2])
     refine (eslots_ok h k todo[i] hth).go [] (by simp (maxSteps := 1000000) [hF]) ?_;rintro av X κ ⟨rfl, rfl, rfl⟩;simp (maxSteps := 1000000) [hF]
     repeat first|refine n4 ?_|refine n5 ?_|refine n6 ?_|refine ⟨⟨by omega, by omega⟩, ?_⟩|(refine rg 4 [0, 2, 3, 9, 10] [0, 2, 3, 9, 10] [] ?_;simp (maxSteps := 1000000) [hF, hp2, c3, c4, hw])
     refine nextK.of [0, 2, 3, 9, 10] [0, 1, 2] (m - 1) (by omega) (by simp [hF]) ?_
     exact ⟨i + 1, todo ++ slotsOf h todo[i], out ++ [todo[i]], by simp; omega, hb2, by simp; omega, by simp; omega, hall2 _ hth, by simp; omega, by simp⟩
    | true =>
     refine (ehas_c false out todo[i] (by omega)).go [(1, [])] (by simp (maxSteps := 1000000) [hF, hh, eHb]) ?_;rintro av X κ ⟨rfl, rfl, rfl⟩;simp (maxSteps := 1000000) [hF, hh, eHb]
     cases ho : inL h.old todo[i] with
     | true =>
      obtain ⟨j, hj, hjx, _⟩ := inL_at ho
      have hb2 := bfs_pass hb (by omega) (.inl (by simp [skipE, ho]))
      refine (eindex_ok false h.old todo[i] (by omega)).go [] (by simp (maxSteps := 1000000) [hF, hjx]) ?_;rintro av X κ ⟨rfl, rfl, rfl⟩;simp (maxSteps := 1000000) [hF, hjx]
      repeat first|refine n4 ?_|refine n6 ?_|refine n7 ?_|refine n8 ?_|((first|refine rg 4 [0, 2, 3, 9, 10] [0, 2, 3, 9, 10] [] ?_|refine nc ?_);simp (maxSteps := 1000000) [hF, hw])
      refine nextK.of [0, 2, 3, 9, 10] [0, 1, 2] (m - 1) (by omega) (by simp [hF]) ?_
      exact ⟨i + 1, todo, out, by omega, hb2, hbd, by omega, hall, by omega, by simp⟩
     | false =>
      have hjx := ixO_none ho
      refine (eindex_ok false h.old todo[i] (by omega)).go [] (by simp (maxSteps := 1000000) [hF, hjx]) ?_;rintro av X κ ⟨rfl, rfl, rfl⟩;simp (maxSteps := 1000000) [hF, hjx]
      have hfacts := hall _ (List.getElem_mem hlt)
      have hth : there h todo[i] = true := hfacts.resolve_left hz
      have hb2 := bfs_take hb (by omega) (by simp [skipE, hz, ho]) hin
      rw [← hdr2 (slotsOf h todo[i])] at hb2
      have hl2 := lft_new k.dist (x := todo[i]) (by rw [← there_obs]; exact hth) hin
      have hl3 : lftO (obs h) (out ++ [todo[i]]) + (slotsOf h todo[i]).length = lftO (obs h) out := hl2
      have hs8 := slots8 k todo[i]
      have hp1 : (dInts (out ++ [todo[i]])).mid 0 (out.length + 1) = dInts (out ++ [todo[i]]) := sq_mid_all _ _ (by simp)
      have hp2 : (dInts (todo ++ slotsOf h todo[i])).mid 0 (todo.length + (slotsOf h todo[i]).length) = dInts (todo ++ slotsOf h todo[i]) := sq_mid_all _ _ (by simp)
      have c1 : (out.length + 1) * 8 ≤ 140737488355328 := by omega
      have c2 : out.length ≤ 9223372036854775806 := by omega
      have c3 : (todo.length + (slotsOf h todo[i]).length) * 8 ≤ 140737488355328 := by omega
      have c4 : todo.length + (slotsOf h todo[i]).length ≤ 9223372036854775807 := by omega
      repeat first|refine n1 ?_|refine n2 ?_|((first|refine rg 7 [0, 2, 3, 9, 10, 11] [0, 2, 3, 9, 10, 11] [] ?_|refine rg 8 [0, 2, 3, 9, 10, 11] [0, 2, 3, 9, 10] [] ?_|refine nc ?_);simp (maxSteps := 1000000) [hF, hz, hp1, c1, c2])
      refine (eslots_ok h k todo[i] hth).go [] (by simp (maxSteps := 1000000) [hF]) ?_;rintro av X κ ⟨rfl, rfl, rfl⟩;simp (maxSteps := 1000000) [hF]
      repeat first|refine n4 ?_|refine n5 ?_|refine n6 ?_|refine ⟨⟨by omega, by omega⟩, ?_⟩|(refine rg 4 [0, 2, 3, 9, 10] [0, 2, 3, 9, 10] [] ?_;simp (maxSteps := 1000000) [hF, hp2, c3, c4, hw])
      refine nextK.of [0, 2, 3, 9, 10] [0, 1, 2] (m - 1) (by omega) (by simp [hF]) ?_
      exact ⟨i + 1, todo ++ slotsOf h todo[i], out ++ [todo[i]], by simp; omega, hb2, by simp; omega, by simp; omega, hall2 _ hth, by simp; omega, by simp⟩
 ·have hd : todo.drop i = [] := List.drop_of_length_le (by omega)
  rw [hd] at hb
  have hf := bfs_end hb
  repeat first|refine n1 ?_|refine n7 ?_|(refine rg 9 [2] [8] [] ?_;simp (maxSteps := 1000000) [hF])
  (try refine nr ?_);(repeat first|refine nb_ ?_|refine nl_ ?_);refine endK.o [8] [0, 1] [(0, [])] ?_;simp [hF, retK, covers, mpre, hf]
/- (*cabochon/cabochonref27.Heap).Live -/
theorem elive_ok (h : Hp) (k : Ok h) : Meets Try.prog 22 [] (.cons (avE h) .nil) fun av X κ => av = .sub 0 [] 0 (liveOf h).length false ∧ X = [.sl true () 1 (dInts (liveOf h))] ∧ κ = [] := by
 have hr := k.roots
 have hwl : (walkE h false h.roots []).length ≤ 100000 := by
  have h1 : (walkE h false h.roots []).Nodup := bfs_nodup _ _ _ _ _ (by simp)
  have h2 : ∀ x ∈ walkE h false h.roots [], x ∈ (obs h).map (·.handle) := fun x hx => by
   have := RR.there ((liveOf_mem k x).1 hx)
   rwa [there_obs, inL_mem] at this
  have h3 := nodup_le h1 h2
  obtain ⟨b1, b2, b3, b4⟩ := k.lens
  simp only [obs, List.length_map, List.length_append] at h3
  omega
 have hf : (walkE h false h.roots []).mergeSort leI = liveOf h := rfl
 refine fb Try.func22 Try.ntmps22 [.tmp 2] fun w0 I0 F0 hF => ?_
 repeat first|refine n1 ?_|((first|refine rg 0 [0] [0] [] ?_|refine rg 1 [0] [0, 4] [] ?_);simp (maxSteps := 1000000) [hF])
 refine (no_ok h).go [] (by simp (maxSteps := 1000000) [hF]) ?_;rintro av X κ ⟨rfl, rfl, rfl⟩;simp (maxSteps := 1000000) [hF]
 repeat first|refine n1 ?_|refine n2 ?_|((first|refine rg 3 [0] [2] [] ?_|refine nc ?_);simp (maxSteps := 1000000) [hF, eHb])
 refine (ereach_n h k h.roots false false (by omega) (fun x hx => .inr (hr.2 x hx))).go [] (by simp (maxSteps := 1000000) [hF, eHb]) ?_;rintro av X κ ⟨rfl, rfl, rfl⟩;simp (maxSteps := 1000000) [hF, eHb]
 refine (ascending_c (walkE h false h.roots []) false hwl).go [(0, [])] (by simp (maxSteps := 1000000) [hF, ascend_eq, hf]) ?_;rintro av X κ ⟨rfl, rfl, rfl⟩;simp (maxSteps := 1000000) [hF, ascend_eq, hf]
 (try refine nr ?_);(repeat first|refine nb_ ?_|refine nl_ ?_);refine endK.o [2] [1] [] ?_;simp [hF, retK, covers, mpre, hf]
/- (*cabochon/cabochonref27.Heap).reach -/
theorem ereach_nc (h : Hp) (k : Ok h) (from_ : List Int) (ex : Bool) (minor : Bool) (hfl : from_.length ≤ 10000000) (hv : ∀ x ∈ from_, x = 0 ∨ there h x = true) : Meets Try.prog 52 [eHp h, .sl true () 1 (dInts from_)] (.cons (.ptr 0 [.d]) (.cons (.sub 1 [] 0 from_.length ex) (.cons (.nils 1) (.cons (avBool (!minor)) .nil))))
  fun av X κ => av = .sub 2 [] 0 (walkE h minor from_ []).length false ∧ X = [eHp h, .sl true () 1 (dInts from_), .sl true () 1 (dInts (walkE h minor from_ []))] ∧ κ = [] :=
 warmE (warmL (t := .cons (avE h) (.cons (.sub 0 [] 0 from_.length ex) (.cons (.nils 1) (.cons (avBool (!minor)) .nil)))) (ereach_n h k from_ ex minor hfl hv) (by simp only [AV.chilled, dInts_mid, freeze_ints]) rfl (by simp [T.allOwn]) rfl) (by simp only [AV.chilled]) rfl (by simp [T.allOwn]) rfl
theorem ereach_oc (h : Hp) (k : Ok h) (from_ out0 : List Int) (ex : Bool) (minor : Bool) (hfl : from_.length ≤ 10000000) (hol0 : out0.length ≤ 1000000) (hv : ∀ x ∈ from_, x = 0 ∨ there h x = true) : Meets Try.prog 52 [eHp h, .sl true () 1 (dInts from_), .sl true () 1 (dInts out0)] (.cons (.ptr 0 [.d]) (.cons (.sub 1 [] 0 from_.length ex) (.cons (.sub 2 [] 0 out0.length false) (.cons (avBool (!minor)) .nil))))
  fun av X κ => av = .sub 3 [] 0 (walkE h minor from_ out0).length false ∧ X = [eHp h, .sl true () 1 (dInts from_), .junk (), .sl true () 1 (dInts (walkE h minor from_ out0))] ∧ κ = [(2, [])] := by
 have m1 := Meets.warmK (P := Try.prog) (f := 52) (d0 := .sl true () 1 (dInts from_)) (Y := [.sl true () 1 (dInts out0)]) (t := .cons (avE h) (.cons (.sub 0 [] 0 from_.length ex) (.cons (.sub 1 [] 0 out0.length false) (.cons (avBool (!minor)) .nil))))
  (by simp only [AV.chilled, dInts_mid, freeze_ints]; exact ereach_o h k from_ out0 ex minor hfl hol0 hv) (by rintro av X κ ⟨rfl, rfl, rfl⟩; exact ⟨rfl, by simp [T.allOwn]⟩)
 have m2 := Meets.warmK (P := Try.prog) (f := 52) (d0 := eHp h) (Y := [.sl true () 1 (dInts from_), .sl true () 1 (dInts out0)]) (t := .cons (.ptr 0 [.d]) (.cons (.sub 1 [] 0 from_.length ex) (.cons (.sub 2 [] 0 out0.length false) (.cons (avBool (!minor)) .nil))))
  (by rw [chillE]; simp only [AV.chilled]; exact m1) (by rintro av X κ ⟨av0, X0, κ0, ⟨rfl, rfl, rfl⟩, rfl, rfl, rfl⟩; exact ⟨rfl, by simp [T.allOwn]⟩)
 refine Meets.mono m2 ?_
 rintro av X κ ⟨_, _, _, ⟨_, _, _, ⟨rfl, rfl, rfl⟩, rfl, rfl, rfl⟩, rfl, rfl, rfl⟩
 exact ⟨rfl, rfl, rfl⟩
theorem erem_c (h : Hp) (k : Ok h) (i : Nat) (hi : i < h.old.length) : Meets Try.prog 87 [eHp h] (.cons (.ptr 0 [.d]) (.cons (.agg (.cons (avInt h.old[i].handle) (.cons (avInt h.old[i].age) (.cons (.sub 0 [.d, .f 4, .i i, .f 2] 0 h.old[i].slots.length false) .nil)))) .nil))
  fun av X κ => av = avBool (remB h h.old[i]) ∧ X = [eHp h] ∧ κ = [] := by
 have hsl := (k.small h.old[i] (by simp [obs])).2.2.2.1
 have hn := dObs_nth (o := true) hi
 have hm := dInts_mid h.old[i].slots
 have hfr := freeze_ints h.old[i].slots
 refine warmE (erem_ok h k h.old[i] hsl) ?_ rfl (by simp) rfl
 simp [AV.chilled, eHp, eHb, T.at_, hn, hi, hm, hfr, avOb]
/- cabochon/cabochonref27.index -/
theorem eindex_o (h : Hp) (k : Ok h) (x : Int) (ex : Bool) : Meets Try.prog 82 [eHp h] (.cons (.sub 0 [.d, .f 4] 0 h.old.length ex) (.cons (avInt x) .nil))
  fun av X κ => av = avInt (ixO h.old x) ∧ X = [eHp h] ∧ κ = [] := by
 obtain ⟨b1, b2, b3, b4⟩ := k.lens
 have hm := dObs_mid_all true h.old
 have hfr := freeze_obs true h.old
 refine Meets.mono (Meets.warm (d0 := eHp h) (Y := []) (t := .cons (.sub 0 [.d, .f 4] 0 h.old.length ex) (.cons (avInt x) .nil)) (R := fun av X κ => av = avInt (ixO h.old x) ∧ X = [] ∧ κ = []) ?_ ?_) ?_
 ·have : (AV.cons (.sub 0 [.d, .f 4] 0 h.old.length ex) (.cons (avInt x) .nil)).chilled (eHp h) = .cons (.imm 3 (dObs false h.old) ex) (.cons (avInt x) .nil) := by
   simp [AV.chilled, eHp, eHb, T.at_, hm, hfr]
  rw [this]
  exact eindex_ok ex h.old x (by omega)
 ·rintro av X κ ⟨rfl, rfl, rfl⟩; exact ⟨rfl, by simp, rfl⟩
 ·rintro av X κ ⟨av0, X0, ⟨rfl, rfl, _⟩, rfl, rfl, rfl⟩; exact ⟨rfl, rfl, rfl⟩
theorem firstE_len {h : Hp} (k : Ok h) (minor : Bool) : (firstE h minor).length ≤ 2000 := by
 obtain ⟨b1, b2, b3, b4⟩ := k.lens
 have h1 : (firstE h minor).Nodup := bfs_nodup _ _ _ _ _ (by simp)
 have h2 : ∀ x ∈ firstE h minor, x ∈ (obs h).map (·.handle) := fun x hx => by
  have := ((first_spec k minor).2.1) x hx
  rwa [there_obs, inL_mem] at this
 have h3 := nodup_le h1 h2
 simp only [obs, List.length_map, List.length_append] at h3
 omega
/-- What was met so far, where the finals of 'l' are dead. -/
def metE (h : Hp) (minor : Bool) (l : List (Int × Int)) : List Int := ((l.filter (deadB h minor fun x => (firstE h minor).contains x)).map (·.1)).foldl (fun out x => walkE h minor [x] out) (firstE h minor)

theorem met_ok {h : Hp} (k : Ok h) (minor : Bool) : ∀ (l out : List Int), (∀ z ∈ l, there h z = true) → out.Nodup → (∀ x ∈ out, there h x = true) → (∀ x ∈ out, ∀ y ∈ slotsOf h x, skipP h minor y = false → y ∈ out) →
  (l.foldl (fun out x => walkE h minor [x] out) out).Nodup ∧ ∀ x ∈ l.foldl (fun out x => walkE h minor [x] out) out, there h x = true
 | [], out, _, h1, h2, _ => ⟨h1, h2⟩
 | z :: l, out, hl, h1, h2, h3 => by
  obtain ⟨_, w2, w3⟩ := walk_spec k minor (from_ := [z]) (out := out) (fun y hy => .inr (by rw [List.mem_singleton.1 hy]; exact hl z (by simp))) h2 h3
  exact met_ok k minor l _ (fun y hy => hl y (by simp [hy])) (bfs_nodup _ _ _ _ _ h1) w2 w3
theorem metE_len {h : Hp} (k : Ok h) (minor : Bool) {l : List (Int × Int)} (hl : ∀ f ∈ l, there h f.1 = true) : (metE h minor l).length ≤ 2000 := by
 obtain ⟨b1, b2, b3, b4⟩ := k.lens
 obtain ⟨_, f2, f3⟩ := first_spec k minor
 obtain ⟨h1, h2⟩ := met_ok k minor ((l.filter (deadB h minor fun x => (firstE h minor).contains x)).map (·.1)) (firstE h minor) (fun z hz => by
  obtain ⟨f, hf, rfl⟩ := List.mem_map.1 hz
  exact hl f (List.mem_filter.1 hf).1) (bfs_nodup _ _ _ _ _ (by simp)) f2 f3
 have h3 := nodup_le (m := (obs h).map (·.handle)) h1 fun x hx => by
  have := h2 x hx
  rwa [there_obs, inL_mem] at this
 simp only [obs, List.length_map, List.length_append] at h3
 rw [metE]
 omega
theorem Ok.withQ {h : Hp} (k : Ok h) (Q : List Int) : Ok { h with queue := Q } := ⟨k.rooms, k.dist, k.small, k.next, k.roots, k.usedY, k.usedO, k.fins, k.weak⟩
theorem eindex_q (h : Hp) (k : Ok h) (Q : List Int) (x : Int) (ex : Bool) : Meets Try.prog 82 [eHp { h with queue := Q }] (.cons (.sub 0 [.d, .f 4] 0 h.old.length ex) (.cons (avInt x) .nil))
  fun av X κ => av = avInt (ixO h.old x) ∧ X = [eHp { h with queue := Q }] ∧ κ = [] := eindex_o { h with queue := Q } (k.withQ Q) x ex
theorem ereach_q (h : Hp) (k : Ok h) (Q : List Int) (from_ out0 : List Int) (ex : Bool) (minor : Bool) (hfl : from_.length ≤ 10000000) (hol0 : out0.length ≤ 1000000) (hv : ∀ x ∈ from_, x = 0 ∨ there h x = true) : Meets Try.prog 52 [eHp { h with queue := Q }, .sl true () 1 (dInts from_), .sl true () 1 (dInts out0)] (.cons (.ptr 0 [.d]) (.cons (.sub 1 [] 0 from_.length ex) (.cons (.sub 2 [] 0 out0.length false) (.cons (avBool (!minor)) .nil))))
  fun av X κ => av = .sub 3 [] 0 (walkE h minor from_ out0).length false ∧ X = [eHp { h with queue := Q }, .sl true () 1 (dInts from_), .junk (), .sl true () 1 (dInts (walkE h minor from_ out0))] ∧ κ = [(2, [])] := ereach_oc { h with queue := Q } (k.withQ Q) from_ out0 ex minor hfl hol0 hv

/- (*cabochon/cabochonref27.Heap).live -/
theorem elivew_false (h : Hp) (k : Ok h) (hfl : h.fins.length ≤ 1000000) (hql : h.queue.length ≤ 1000000) : Meets Try.prog 107 [eHp h] (.cons (.ptr 0 [.d]) (.cons (avBool true) .nil))
  fun av X κ => av = .sub 1 [] 0 (liveE h false).length false ∧ X = [eHp (liveHp h false fun x => (firstE h false).contains x), .sl true () 1 (dInts (liveE h false))] ∧ κ = [(0, [.d])] := by
 obtain ⟨b1, b2, b3, b4⟩ := k.lens
 have hrl := k.roots.1
 have c1 : h.roots.length * 8 ≤ 140737488355328 := by omega
 have c2 : h.roots.length ≤ 9223372036854775807 := by omega
 refine fb Try.func107 Try.ntmps107 [.tmp 4] fun w0 I0 F0 hF => ?_
 repeat first|refine n1 ?_|refine n3 ?_|((first|refine rg 0 [0, 1] [0, 1] [] ?_|refine rg 1 [0, 1] [0, 1, 5] [] ?_|refine rg 2 [0, 1, 5] [0, 1, 5, 6] [] ?_);simp (maxSteps := 1000000) [hF, eHp, eHb, c1, c2])
 refine VS.rounds (fun m st => ∃ (i : Nat) (from_ : List Int), i + m = h.old.length ∧ from_ = h.roots ++ (((h.old.take i).filter (remB h)).map (·.slots)).flatten ∧ from_.length ≤ 50 + 8 * i ∧ (false = false → i = 0) ∧ st = ⟨[(0, .ptr 0 [.d]), (1, avBool true), (5, .sub 1 [] 0 from_.length false), (6, avInt i)], [eHp h, .sl true () 1 (dInts from_)], [], []⟩) ⟨h.old.length, 0, h.roots, by omega, by simp, by omega, fun _ => rfl, by simp [eHp, eHb]⟩ ?_
 clear c1 c2
 rintro m st ⟨i, from_, hi, hfr, hfrl, hmi, rfl⟩
 have hff : from_ = fromOf h false := by rw [hfr, hmi rfl]; simp [fromOf]
 apply merged
 intro key
 by_cases hlt : i < h.old.length
 ·repeat first|refine n1 ?_|refine n7 ?_|((first|refine rg 3 [0, 1, 5, 6] [0, 1, 5, 6, 28] [(7, 25)] ?_|refine nc ?_);simp (maxSteps := 1000000) [hF, eHp, eHb, hlt])
  exact key ()
 ·repeat first|refine n1 ?_|refine n7 ?_|((first|refine rg 3 [0, 1, 5, 6] [0, 1, 5, 6, 28] [(7, 25)] ?_|refine nc ?_);simp (maxSteps := 1000000) [hF, eHp, eHb, hlt])
  exact key ()
 have hfl2 : from_.length ≤ 100000 := by omega
 have hfv : ∀ x ∈ from_, x = 0 ∨ there h x = true := fun x hx => from_val k false x (by rw [← hff]; exact hx)
 have hF1 : walkE h false from_ [] = firstE h false := by rw [hff]; rfl
 clear hfr hfrl hmi hff hi
 repeat first|(refine rg 7 [0, 1, 5] [0, 1, 7] [] ?_;simp (maxSteps := 1000000) [hF, eHp, eHb])
 refine (ereach_nc h k from_ false false (by omega) hfv).go [(0, []), (1, [])] (by simp (maxSteps := 1000000) [hF, eHp, eHb, hF1]) ?_;rintro av X κ ⟨rfl, rfl, rfl⟩;simp (maxSteps := 1000000) [hF, eHp, eHb, hF1]
 have hFl := firstE_len k false
 have hFm := dInts_mid (firstE h false)
 obtain ⟨FE, hFE⟩ : ∃ FE, FE = firstE h false := ⟨_, rfl⟩
 rw [← hFE] at hFl hFm
 have c3 : FE.length * 8 ≤ 140737488355328 := by omega
 have c4 : FE.length ≤ 9223372036854775807 := by omega
 repeat first|refine n1 ?_|((first|refine rg 8 [0, 1, 7] [0, 1, 7, 8] [] ?_|refine rg 9 [0, 1, 7, 8] [0, 1, 7, 8, 9] [] ?_);simp (maxSteps := 1000000) [hF, ← hFE, c3, c4, hFm])
 refine VS.hold0 9 2 (by simp) ?_
 refine VS.pick [0, 1, 7, 8, 9] [0, 2, 3, 4] (by simp [hF]) ?_;simp [hF]
 repeat first|refine n3 ?_|(refine rg 10 [0, 1, 7, 8, 9] [0, 1, 7, 8, 9, 10] [] ?_;simp (maxSteps := 1000000) [hF])
 have hDB : (deadB h false fun x => (firstE h false).contains x) = deadB h false fun x => FE.contains x := by rw [hFE]
 refine VS.widen [(0, [.d])] (by simp [covers, mpre]) ?_
 refine VS.rounds (fun m st => ∃ (i : Nat) (F : List (Int × Int)) (Q L : List Int), i + m = h.fins.length ∧ F = ((h.fins.take i).filter fun f => !(deadB h false fun x => FE.contains x) f) ∧ Q = h.queue ++ ((h.fins.take i).filter (deadB h false fun x => FE.contains x)).map (·.2) ∧ L = metE h false (h.fins.take i) ∧
   st = ⟨[(0, .ptr 0 [.d]), (1, avBool true), (7, .sub 1 [] 0 L.length false), (8, .sub 2 [] 0 FE.length false), (9, .sub 3 [] 0 F.length false), (10, avInt i)], [eHp { h with queue := Q }, .sl true () 1 (dInts L), .sl true () 1 (dInts FE), .sl true () 2 (dEns F)], [(0, [.d])], []⟩)
  ⟨h.fins.length, 0, [], h.queue, FE, by omega, by simp, by simp, by simp [metE, hFE], by simp [eHp, eHb]⟩ ?_
 clear hFm c3 c4 hfv hfl2 hF1
 rintro m st ⟨i, F, Q, L, hi, hFd, hQd, hLd, rfl⟩
 have hFl2 : F.length ≤ 1000000 := by rw [hFd]; exact Nat.le_trans (List.length_filter_le _ _) (by rw [List.length_take]; omega)
 have hQl2 : Q.length ≤ 2000000 := by
  rw [hQd, List.length_append, List.length_map]
  have := List.length_filter_le (deadB h false fun x => FE.contains x) (h.fins.take i)
  rw [List.length_take] at this
  omega
 have hLl2 : L.length ≤ 2000 := by rw [hLd]; exact metE_len k false fun f hf => k.fins f (List.mem_of_mem_take hf)
 repeat first|refine n1 ?_|((first|refine rg 11 [0, 1, 7, 8, 9, 10] [0, 1, 7, 8, 9, 10, 63] [] ?_|refine nc ?_);simp (maxSteps := 1000000) [hF, eHp, eHb])
 refine ⟨fun hlt => ?_, fun hge => ?_⟩
 ·have hn1 := dEns_nth hlt
  have hw : IntKind.i64.wrap ((i : Int) + 1) = (i + 1 : Nat) := by rw [IntWalk.i64_in _ (by omega)]; rfl
  have hsF : ∀ b, (deadB h false fun x => FE.contains x) h.fins[i] = b → ((h.fins.take (i + 1)).filter fun f => !(deadB h false fun x => FE.contains x) f) = if b = true then F else F ++ [(h.fins[i].1, h.fins[i].2)] := fun b hb => by
   rw [take_succ_at hlt, List.filter_append, ← hFd]
   cases b
   ·rw [List.filter_cons_of_pos (by rw [hb]; rfl)]; rfl
   ·rw [List.filter_cons_of_neg (by rw [hb]; simp)]; simp
  have hsQ : ∀ b, (deadB h false fun x => FE.contains x) h.fins[i] = b → h.queue ++ ((h.fins.take (i + 1)).filter (deadB h false fun x => FE.contains x)).map (·.2) = if b = true then Q ++ [h.fins[i].2] else Q := fun b hb => by
   rw [take_succ_at hlt, List.filter_append, List.map_append, ← List.append_assoc, ← hQd]
   cases b
   ·rw [List.filter_cons_of_neg (by rw [hb]; simp)]; simp
   ·rw [List.filter_cons_of_pos (by rw [hb])]; rfl
  have hsL : ∀ b, (deadB h false fun x => FE.contains x) h.fins[i] = b → metE h false (h.fins.take (i + 1)) = if b = true then walkE h false [h.fins[i].1] L else L := fun b hb => by
   rw [← hDB] at hb
   rw [hLd, metE, metE, take_succ_at hlt, List.filter_append, List.map_append, List.foldl_append]
   cases b
   ·rw [List.filter_cons_of_neg (by rw [hb]; simp)]; rfl
   ·rw [List.filter_cons_of_pos (by rw [hb])]; rfl
  have c1 : (F.length + 1) * 16 ≤ 140737488355328 := by omega
  have c2 : F.length ≤ 9223372036854775806 := by omega
  have c3 : (Q.length + 1) * 8 ≤ 140737488355328 := by omega
  have c4 : Q.length ≤ 9223372036854775806 := by omega
  have hp1 := dEns_push F h.fins[i].1 h.fins[i].2
  have hp2 := dEns_mid1 F (h.fins[i].1, h.fins[i].2)
  have hp3 : (dInts (Q ++ [h.fins[i].2])).mid 0 (Q.length + 1) = dInts (Q ++ [h.fins[i].2]) := sq_mid_all _ _ (by simp)
  have hv1 : ∀ x ∈ [h.fins[i].1], x = 0 ∨ there h x = true := fun x hx => .inr (by rw [List.mem_singleton.1 hx]; exact k.fins _ (List.getElem_mem hlt))
  repeat first|refine n1 ?_|refine n2 ?_|refine n3 ?_|((first|refine rg 13 [0, 1, 7, 8, 9, 10] [0, 1, 7, 8, 9, 10, 11] [] ?_|(refine dr 14 0 [0, 1, 7, 8, 9, 10, 11] [0, 1, 7, 8, 9, 10, 11, 90] [(4, 77), (7, 80)] [⟨0, 256, 9444732965739290427392, 5⟩, ⟨0, 2048, 18889465931478580854784, 5⟩, ⟨2, 18889465931478580854784, 37778931862957161709568, 6⟩, ⟨5, 47223664828696452136960, 75557863725914323419136, 0⟩, ⟨8, 75557863725914323419136, 151115727451828646838272, 5⟩, ⟨16, 151115727451828646838274, 302231454903657293676544, 5⟩, ⟨48, 453347182355485940514816, 604462909807314587353088, 5⟩, ⟨80, 755578637259143234191360, 1208925819614629174706176, 5⟩, ⟨128, 1208925819614629174706177, 2417851639229258349412352, 5⟩, ⟨384, 3626777458843887524118528, 4835703278458516698824704, 5⟩, ⟨640, 6044629098073145873530880, 9671406556917033397649408, 5⟩, ⟨1152, 10880332376531662572355584, 19342813113834066795298816, 6⟩, ⟨128, 1208925819614629174708224, 38685626227668133590597632, 5⟩, ⟨4224, 39894552047282762765303808, 77371252455336267181195264, 6⟩, ⟨10368, 97922991388784963151200256, 154742504910672534362390528, 0⟩, ⟨16512, 155951430730287163537096704, 309485009821345068724781056, 5⟩, ⟨32912, 310845051368411526546325504, 618970019642690137449562112, 5⟩, ⟨65552, 619121135370141966096400384, 1237940039285380274899124224, 5⟩] (.take 0 (.take 1 (.take 2 (.fork (.alt 3 (.take 4 (.take 5 (.take 6 (.take 7 (.take 8 (.take 9 (.take 10 (.take 11 (.take 12 (.take 13 (.fork (.alt 14 (.take 15 (.take 16 (.take 17 (.done)))) (.nil))))))))))))) (.nil)))))) (.run [0, 1, 2, 3, 4, 5, 6, 7, 8, 9, 10, 11, 12, 13, 14, 15, 16, 17] (.done)) ?_;simp only [drs]));simp (maxSteps := 1000000) [hF, eHp, eHb, hn1, hlt])
  by_cases hin : h.fins[i].1 ∈ FE
  ·have hh := hasN_iff.2 hin
   have hdb : (deadB h false fun x => FE.contains x) h.fins[i] = false := by simp [deadB, hin]
   refine (ehas_c false FE h.fins[i].1 (by omega)).go [(2, [])] (by simp (maxSteps := 1000000) [hF, hh]) ?_;rintro av X κ ⟨rfl, rfl, rfl⟩;simp (maxSteps := 1000000) [hF, hh]
   repeat first|refine n1 ?_|refine n4 ?_|refine n6 ?_|refine n7 ?_|refine n8 ?_|((first|refine rg 12 [0, 1, 7, 8, 9, 10] [0, 1, 7, 8, 9, 10] [] ?_|refine rg 15 [0, 1, 7, 8, 9, 10, 11] [0, 1, 7, 8, 9, 10] [] ?_|refine nc ?_);simp (maxSteps := 1000000) [hF, c1, c2, hp1, hp2, hw])
   refine nextK.of [0, 1, 7, 8, 9, 10] [0, 1, 2, 3] (m - 1) (by omega) (by simp [hF]) ?_
   exact ⟨i + 1, _, Q, L, by omega, (hsF _ hdb).symm, (hsQ _ hdb).symm, (hsL _ hdb).symm, by simp [eHp, eHb]⟩
  ·have hh := hasN_no hin
   refine (ehas_c false FE h.fins[i].1 (by omega)).go [(2, [])] (by simp (maxSteps := 1000000) [hF, hh]) ?_;rintro av X κ ⟨rfl, rfl, rfl⟩;simp (maxSteps := 1000000) [hF, hh]
   repeat first|refine n1 ?_|refine n2 ?_|(refine nc ?_;simp (maxSteps := 1000000) [hF])
   have hdb : (deadB h false fun x => FE.contains x) h.fins[i] = true := by simp [deadB, hin]
   refine ghostL 0 [.d, .f 8] ?_;simp (maxSteps := 1000000) [hF, St.lift, AV.lift, liftPl, stripP, nodeAV, isNode]
   repeat first|((refine dr 16 0 [0, 1, 7, 8, 9, 10, 11] [0, 1, 7, 8, 9, 10, 11] [] [⟨0, 1, 39614081257132168796771975168, 5⟩, ⟨0, 1, 79228162514264337593543950336, 5⟩, ⟨2, 79228162514264337593543950336, 158456325028528675187087900672, 5⟩, ⟨4, 158456325028528675187087900672, 316912650057057350374175801344, 5⟩, ⟨8, 316912650057057350374175801344, 633825300114114700748351602688, 6⟩, ⟨0, 2048, 1267650600228229401496703205376, 5⟩, ⟨32, 1267650600228229401496703205376, 2535301200456458802993406410752, 6⟩, ⟨64, 2535301200456458802993406410752, 5070602400912917605986812821504, 4⟩, ⟨144, 5704427701027032306735164424192, 10141204801825835211973625643008, 0⟩, ⟨511, 39614081257132168796771975168, 20282409603651670423947251286016, 5⟩, ⟨1023, 20282409603651670423947251286016, 40564819207303340847894502572032, 5⟩, ⟨1535, 50706024009129176059868128215040, 0, 0⟩] (.take 0 (.take 1 (.take 2 (.take 3 (.take 4 (.take 5 (.take 6 (.fork (.alt 7 (.fork (.alt 8 (.take 9 (.take 10 (.fork (.alt 11 (.done) (.nil))))) (.nil))) (.nil)))))))))) (.run [0, 1, 2, 3, 4, 5, 6, 7, 8, 9, 10, 11] (.done)) ?_;simp only [drs]);simp (maxSteps := 1000000) [hF, hp3, c3, c4])
   refine VS.widen [(0, [.d])] (by simp [covers, mpre]) ?_
   refine VS.pick [0, 1, 7, 8, 9, 10, 11] [0, 1, 2, 3, 4] (by simp [hF]) ?_;simp [hF]
   have hd1 : dInts [h.fins[i].1] = .cons (.val (.int .i64 h.fins[i].1)) .nil := rfl
   repeat first|(refine rg 17 [0, 1, 7, 8, 9, 10, 11] [0, 1, 7, 8, 9, 10] [] ?_;simp (maxSteps := 1000000) [hF])
   refine (ereach_q h k (Q ++ [h.fins[i].2]) [h.fins[i].1] L true false (by simp) (by omega) hv1).go [(0, []), (5, []), (1, [])] (by simp (maxSteps := 1000000) [hF, eHp, eHb, hd1]) ?_;rintro av X κ ⟨rfl, rfl, rfl⟩;simp (maxSteps := 1000000) [hF, eHp, eHb, hd1]
   repeat first|refine n4 ?_|refine n5 ?_|refine n6 ?_|(refine rg 12 [0, 1, 7, 8, 9, 10] [0, 1, 7, 8, 9, 10] [] ?_;simp (maxSteps := 1000000) [hF, hw])
   refine nextK.of [0, 1, 7, 8, 9, 10] [0, 6, 2, 3] (m - 1) (by omega) (by simp [hF]) ?_
   exact ⟨i + 1, F, Q ++ [h.fins[i].2], _, by omega, (hsF _ hdb).symm, (hsQ _ hdb).symm, (hsL _ hdb).symm, by simp [eHp, eHb]⟩
 ·have hx : liveHp h false (fun x => (firstE h false).contains x) = { h with fins := F, queue := Q } := by
   rw [liveHp, hDB, hFd, hQd, List.take_of_length_le (by omega)]
  have hx : liveHp h false (fun x => decide (x ∈ firstE h false)) = { h with fins := F, queue := Q } := by
   rw [show (fun x => decide (x ∈ firstE h false)) = fun x => (firstE h false).contains x from funext fun x => by simp]; exact hx
  have hy : liveE h false = L := by rw [hLd, List.take_of_length_le (by omega)]; rfl
  have hm := dEns_mid_all F
  repeat first|refine n1 ?_|refine n7 ?_|((first|refine rg 18 [0, 7, 9] [7] [] ?_|refine rg 19 [7] [4] [] ?_);simp (maxSteps := 1000000) [hF, eHp, eHb, hm])
  refine VS.widen [(0, [.d])] (by simp [covers, mpre]) ?_
  (try refine nr ?_);(repeat first|refine nb_ ?_|refine nl_ ?_);refine endK.o [4] [0, 1] [(0, [.d])] ?_;simp [hF, retK, covers, mpre, hx, hy, eHp, eHb]

/- (*cabochon/cabochonref27.Heap).live -/
theorem elivew_true (h : Hp) (k : Ok h) (hfl : h.fins.length ≤ 1000000) (hql : h.queue.length ≤ 1000000) : Meets Try.prog 107 [eHp h] (.cons (.ptr 0 [.d]) (.cons (avBool false) .nil))
  fun av X κ => av = .sub 1 [] 0 (liveE h true).length false ∧ X = [eHp (liveHp h true fun x => (firstE h true).contains x), .sl true () 1 (dInts (liveE h true))] ∧ κ = [(0, [.d])] := by
 obtain ⟨b1, b2, b3, b4⟩ := k.lens
 have hrl := k.roots.1
 have c1 : h.roots.length * 8 ≤ 140737488355328 := by omega
 have c2 : h.roots.length ≤ 9223372036854775807 := by omega
 refine fb Try.func107 Try.ntmps107 [.tmp 4] fun w0 I0 F0 hF => ?_
 repeat first|refine n1 ?_|refine n3 ?_|((first|refine rg 0 [0, 1] [0, 1] [] ?_|refine rg 1 [0, 1] [0, 1, 5] [] ?_|refine rg 2 [0, 1, 5] [0, 1, 5, 6] [] ?_);simp (maxSteps := 1000000) [hF, eHp, eHb, c1, c2])
 refine VS.rounds (fun m st => ∃ (i : Nat) (from_ : List Int), i + m = h.old.length ∧ from_ = h.roots ++ (((h.old.take i).filter (remB h)).map (·.slots)).flatten ∧ from_.length ≤ 50 + 8 * i ∧ (true = false → i = 0) ∧ st = ⟨[(0, .ptr 0 [.d]), (1, avBool false), (5, .sub 1 [] 0 from_.length false), (6, avInt i)], [eHp h, .sl true () 1 (dInts from_)], [], []⟩) ⟨h.old.length, 0, h.roots, by omega, by simp, by omega, fun _ => rfl, by simp [eHp, eHb]⟩ ?_
 clear c1 c2
 rintro m st ⟨i, from_, hi, hfr, hfrl, hmi, rfl⟩
 by_cases hlt : i < h.old.length
 ·have hn1 := dObs_nth (o := true) hlt
  have hw : IntKind.i64.wrap ((i : Int) + 1) = (i + 1 : Nat) := by rw [IntWalk.i64_in _ (by omega)]; rfl
  have hs8 : h.old[i].slots.length ≤ 8 := (k.small h.old[i] (by simp [obs])).2.2.2.1
  have hsm := dInts_mid h.old[i].slots
  repeat first|refine n1 ?_|refine n2 ?_|refine n3 ?_|((first|refine rg 3 [0, 1, 5, 6] [0, 1, 5, 6, 28] [(7, 25)] ?_|refine rg 5 [0, 1, 5, 6] [0, 1, 5, 6, 39] [] ?_|refine nc ?_);simp (maxSteps := 1000000) [hF, eHp, eHb, hn1, hlt])
  cases hb : remB h h.old[i] with
  | true =>
   have hst : h.roots ++ (((h.old.take (i + 1)).filter (remB h)).map (·.slots)).flatten = from_ ++ h.old[i].slots := by
    rw [take_succ_at hlt, List.filter_append, List.map_append, List.flatten_append, ← List.append_assoc, ← hfr]; simp [hb]
   have c1 : (from_.length + h.old[i].slots.length) * 8 ≤ 140737488355328 := by omega
   have c2 : from_.length + h.old[i].slots.length ≤ 9223372036854775807 := by omega
   have hm1 : (dInts (from_ ++ h.old[i].slots)).mid 0 (from_.length + h.old[i].slots.length) = dInts (from_ ++ h.old[i].slots) := sq_mid_all _ _ (by simp)
   refine (erem_c h k i hlt).go [(0, [])] (by simp (maxSteps := 1000000) [hF, eHp, eHb, hb]) ?_;rintro av X κ ⟨rfl, rfl, rfl⟩;simp (maxSteps := 1000000) [hF, eHp, eHb, hb]
   repeat first|refine n4 ?_|refine n5 ?_|refine n6 ?_|((first|refine rg 4 [0, 1, 5, 6] [0, 1, 5, 6] [] ?_|refine rg 6 [0, 1, 5, 6] [0, 1, 5, 6] [] ?_|refine nc ?_);simp (maxSteps := 1000000) [hF, eHp, eHb, hn1, hlt, hsm, c1, c2, hm1, hw])
   refine nextK.of [0, 1, 5, 6] [0, 1] (m - 1) (by omega) (by simp [hF]) ?_
   exact ⟨i + 1, _, by omega, hst.symm, by simp; omega, by simp, by simp [eHp, eHb]⟩
  | false =>
   have hst : h.roots ++ (((h.old.take (i + 1)).filter (remB h)).map (·.slots)).flatten = from_ := by
    rw [take_succ_at hlt, List.filter_append, List.map_append, List.flatten_append, ← List.append_assoc, ← hfr]; simp [hb]
   refine (erem_c h k i hlt).go [(0, [])] (by simp (maxSteps := 1000000) [hF, eHp, eHb, hb]) ?_;rintro av X κ ⟨rfl, rfl, rfl⟩;simp (maxSteps := 1000000) [hF, eHp, eHb, hb]
   repeat first|refine n2 ?_|refine n4 ?_|refine n5 ?_|refine n6 ?_|((first|refine rg 4 [0, 1, 5, 6] [0, 1, 5, 6] [] ?_|refine nc ?_);simp (maxSteps := 1000000) [hF, hw])
   refine nextK.of [0, 1, 5, 6] [0, 1] (m - 1) (by omega) (by simp [hF]) ?_
   exact ⟨i + 1, from_, by omega, hst.symm, by omega, by simp, by simp [eHp, eHb]⟩
 have hff : from_ = fromOf h true := by rw [hfr, List.take_of_length_le (by omega)]; simp [fromOf]
 have hfl2 : from_.length ≤ 100000 := by omega
 have hfv : ∀ x ∈ from_, x = 0 ∨ there h x = true := fun x hx => from_val k true x (by rw [← hff]; exact hx)
 have hF1 : walkE h true from_ [] = firstE h true := by rw [hff]; rfl
 repeat first|refine n1 ?_|refine n7 ?_|((first|refine rg 3 [0, 1, 5, 6] [0, 1, 5, 6, 28] [(7, 25)] ?_|refine nc ?_);simp (maxSteps := 1000000) [hF, eHp, eHb, hlt])
 clear hfr hfrl hmi hff hi
 repeat first|(refine rg 7 [0, 1, 5] [0, 1, 7] [] ?_;simp (maxSteps := 1000000) [hF, eHp, eHb])
 refine (ereach_nc h k from_ false true (by omega) hfv).go [(0, []), (1, [])] (by simp (maxSteps := 1000000) [hF, eHp, eHb, hF1]) ?_;rintro av X κ ⟨rfl, rfl, rfl⟩;simp (maxSteps := 1000000) [hF, eHp, eHb, hF1]
 have hFl := firstE_len k true
 have hFm := dInts_mid (firstE h true)
 obtain ⟨FE, hFE⟩ : ∃ FE, FE = firstE h true := ⟨_, rfl⟩
 rw [← hFE] at hFl hFm
 have c3 : FE.length * 8 ≤ 140737488355328 := by omega
 have c4 : FE.length ≤ 9223372036854775807 := by omega
 repeat first|refine n1 ?_|((first|refine rg 8 [0, 1, 7] [0, 1, 7, 8] [] ?_|refine rg 9 [0, 1, 7, 8] [0, 1, 7, 8, 9] [] ?_);simp (maxSteps := 1000000) [hF, ← hFE, c3, c4, hFm])
 refine VS.hold0 9 2 (by simp) ?_
 refine VS.pick [0, 1, 7, 8, 9] [0, 2, 3, 4] (by simp [hF]) ?_;simp [hF]
 repeat first|refine n3 ?_|(refine rg 10 [0, 1, 7, 8, 9] [0, 1, 7, 8, 9, 10] [] ?_;simp (maxSteps := 1000000) [hF])
 have hDB : (deadB h true fun x => (firstE h true).contains x) = deadB h true fun x => FE.contains x := by rw [hFE]
 refine VS.widen [(0, [.d])] (by simp [covers, mpre]) ?_
 refine VS.rounds (fun m st => ∃ (i : Nat) (F : List (Int × Int)) (Q L : List Int), i + m = h.fins.length ∧ F = ((h.fins.take i).filter fun f => !(deadB h true fun x => FE.contains x) f) ∧ Q = h.queue ++ ((h.fins.take i).filter (deadB h true fun x => FE.contains x)).map (·.2) ∧ L = metE h true (h.fins.take i) ∧
   st = ⟨[(0, .ptr 0 [.d]), (1, avBool false), (7, .sub 1 [] 0 L.length false), (8, .sub 2 [] 0 FE.length false), (9, .sub 3 [] 0 F.length false), (10, avInt i)], [eHp { h with queue := Q }, .sl true () 1 (dInts L), .sl true () 1 (dInts FE), .sl true () 2 (dEns F)], [(0, [.d])], []⟩)
  ⟨h.fins.length, 0, [], h.queue, FE, by omega, by simp, by simp, by simp [metE, hFE], by simp [eHp, eHb]⟩ ?_
 clear hFm c3 c4 hfv hfl2 hF1
 rintro m st ⟨i, F, Q, L, hi, hFd, hQd, hLd, rfl⟩
 have hFl2 : F.length ≤ 1000000 := by rw [hFd]; exact Nat.le_trans (List.length_filter_le _ _) (by rw [List.length_take]; omega)
 have hQl2 : Q.length ≤ 2000000 := by
  rw [hQd, List.length_append, List.length_map]
  have := List.length_filter_le (deadB h true fun x => FE.contains x) (h.fins.take i)
  rw [List.length_take] at this
  omega
 have hLl2 : L.length ≤ 2000 := by rw [hLd]; exact metE_len k true fun f hf => k.fins f (List.mem_of_mem_take hf)
 repeat first|refine n1 ?_|((first|refine rg 11 [0, 1, 7, 8, 9, 10] [0, 1, 7, 8, 9, 10, 63] [] ?_|refine nc ?_);simp (maxSteps := 1000000) [hF, eHp, eHb])
 refine ⟨fun hlt => ?_, fun hge => ?_⟩
 ·have hn1 := dEns_nth hlt
  have hw : IntKind.i64.wrap ((i : Int) + 1) = (i + 1 : Nat) := by rw [IntWalk.i64_in _ (by omega)]; rfl
  have hsF : ∀ b, (deadB h true fun x => FE.contains x) h.fins[i] = b → ((h.fins.take (i + 1)).filter fun f => !(deadB h true fun x => FE.contains x) f) = if b = true then F else F ++ [(h.fins[i].1, h.fins[i].2)] := fun b hb => by
   rw [take_succ_at hlt, List.filter_append, ← hFd]
   cases b
   ·rw [List.filter_cons_of_pos (by rw [hb]; rfl)]; rfl
   ·rw [List.filter_cons_of_neg (by rw [hb]; simp)]; simp
  have hsQ : ∀ b, (deadB h true fun x => FE.contains x) h.fins[i] = b → h.queue ++ ((h.fins.take (i + 1)).filter (deadB h true fun x => FE.contains x)).map (·.2) = if b = true then Q ++ [h.fins[i].2] else Q := fun b hb => by
   rw [take_succ_at hlt, List.filter_append, List.map_append, ← List.append_assoc, ← hQd]
   cases b
   ·rw [List.filter_cons_of_neg (by rw [hb]; simp)]; simp
   ·rw [List.filter_cons_of_pos (by rw [hb])]; rfl
  have hsL : ∀ b, (deadB h true fun x => FE.contains x) h.fins[i] = b → metE h true (h.fins.take (i + 1)) = if b = true then walkE h true [h.fins[i].1] L else L := fun b hb => by
   rw [← hDB] at hb
   rw [hLd, metE, metE, take_succ_at hlt, List.filter_append, List.map_append, List.foldl_append]
   cases b
   ·rw [List.filter_cons_of_neg (by rw [hb]; simp)]; rfl
   ·rw [List.filter_cons_of_pos (by rw [hb])]; rfl
  have c1 : (F.length + 1) * 16 ≤ 140737488355328 := by omega
  have c2 : F.length ≤ 9223372036854775806 := by omega
  have c3 : (Q.length + 1) * 8 ≤ 140737488355328 := by omega
  have c4 : Q.length ≤ 9223372036854775806 := by omega
  have hp1 := dEns_push F h.fins[i].1 h.fins[i].2
  have hp2 := dEns_mid1 F (h.fins[i].1, h.fins[i].2)
  have hp3 : (dInts (Q ++ [h.fins[i].2])).mid 0 (Q.length + 1) = dInts (Q ++ [h.fins[i].2]) := sq_mid_all _ _ (by simp)
  have hv1 : ∀ x ∈ [h.fins[i].1], x = 0 ∨ there h x = true := fun x hx => .inr (by rw [List.mem_singleton.1 hx]; exact k.fins _ (List.getElem_mem hlt))
  repeat first|refine n1 ?_|refine n2 ?_|refine n3 ?_|((first|refine rg 13 [0, 1, 7, 8, 9, 10] [0, 1, 7, 8, 9, 10, 11] [] ?_|(refine dr 14 0 [0, 1, 7, 8, 9, 10, 11] [0, 1, 7, 8, 9, 10, 11, 90] [(4, 77), (7, 80)] [⟨0, 256, 9444732965739290427392, 5⟩, ⟨0, 2048, 18889465931478580854784, 5⟩, ⟨2, 18889465931478580854784, 37778931862957161709568, 6⟩, ⟨5, 47223664828696452136960, 75557863725914323419136, 0⟩, ⟨8, 75557863725914323419136, 151115727451828646838272, 5⟩, ⟨16, 151115727451828646838274, 302231454903657293676544, 5⟩, ⟨48, 453347182355485940514816, 604462909807314587353088, 5⟩, ⟨80, 755578637259143234191360, 1208925819614629174706176, 5⟩, ⟨128, 1208925819614629174706177, 2417851639229258349412352, 5⟩, ⟨384, 3626777458843887524118528, 4835703278458516698824704, 5⟩, ⟨640, 6044629098073145873530880, 9671406556917033397649408, 5⟩, ⟨1152, 10880332376531662572355584, 19342813113834066795298816, 6⟩, ⟨128, 1208925819614629174708224, 38685626227668133590597632, 5⟩, ⟨4224, 39894552047282762765303808, 77371252455336267181195264, 6⟩, ⟨10368, 97922991388784963151200256, 154742504910672534362390528, 0⟩, ⟨16512, 155951430730287163537096704, 309485009821345068724781056, 5⟩, ⟨32912, 310845051368411526546325504, 618970019642690137449562112, 5⟩, ⟨65552, 619121135370141966096400384, 1237940039285380274899124224, 5⟩] (.take 0 (.take 1 (.take 2 (.fork (.alt 3 (.take 4 (.take 5 (.take 6 (.take 7 (.take 8 (.take 9 (.take 10 (.take 11 (.take 12 (.take 13 (.fork (.alt 14 (.take 15 (.take 16 (.take 17 (.done)))) (.nil))))))))))))) (.nil)))))) (.run [0, 1, 2, 3, 4, 5, 6, 7, 8, 9, 10, 11, 12, 13, 14, 15, 16, 17] (.done)) ?_;simp only [drs]));simp (maxSteps := 1000000) [hF, eHp, eHb, hn1, hlt])
  by_cases hin : h.fins[i].1 ∈ FE
  ·have hh := hasN_iff.2 hin
   have hdb : (deadB h true fun x => FE.contains x) h.fins[i] = false := by simp [deadB, hin]
   refine (ehas_c false FE h.fins[i].1 (by omega)).go [(2, [])] (by simp (maxSteps := 1000000) [hF, hh]) ?_;rintro av X κ ⟨rfl, rfl, rfl⟩;simp (maxSteps := 1000000) [hF, hh]
   repeat first|refine n1 ?_|refine n4 ?_|refine n6 ?_|refine n7 ?_|refine n8 ?_|((first|refine rg 12 [0, 1, 7, 8, 9, 10] [0, 1, 7, 8, 9, 10] [] ?_|refine rg 15 [0, 1, 7, 8, 9, 10, 11] [0, 1, 7, 8, 9, 10] [] ?_|refine nc ?_);simp (maxSteps := 1000000) [hF, c1, c2, hp1, hp2, hw])
   refine nextK.of [0, 1, 7, 8, 9, 10] [0, 1, 2, 3] (m - 1) (by omega) (by simp [hF]) ?_
   exact ⟨i + 1, _, Q, L, by omega, (hsF _ hdb).symm, (hsQ _ hdb).symm, (hsL _ hdb).symm, by simp [eHp, eHb]⟩
  ·have hh := hasN_no hin
   refine (ehas_c false FE h.fins[i].1 (by omega)).go [(2, [])] (by simp (maxSteps := 1000000) [hF, hh]) ?_;rintro av X κ ⟨rfl, rfl, rfl⟩;simp (maxSteps := 1000000) [hF, hh]
   cases ho : inL h.old h.fins[i].1 with
   | true =>
    obtain ⟨j, hj, hjx, _⟩ := inL_at ho
    have hdb : (deadB h true fun x => FE.contains x) h.fins[i] = false := by simp [deadB, hin, ho]
    refine (eindex_q h k Q h.fins[i].1 false).go [(0, [])] (by simp (maxSteps := 1000000) [hF, eHp, eHb, hjx]) ?_;rintro av X κ ⟨rfl, rfl, rfl⟩;simp (maxSteps := 1000000) [hF, eHp, eHb, hjx]
    repeat first|refine n1 ?_|refine n4 ?_|refine n6 ?_|refine n7 ?_|refine n8 ?_|((first|refine rg 12 [0, 1, 7, 8, 9, 10] [0, 1, 7, 8, 9, 10] [] ?_|refine rg 15 [0, 1, 7, 8, 9, 10, 11] [0, 1, 7, 8, 9, 10] [] ?_|refine nc ?_);simp (maxSteps := 1000000) [hF, c1, c2, hp1, hp2, hw])
    refine nextK.of [0, 1, 7, 8, 9, 10] [0, 1, 2, 3] (m - 1) (by omega) (by simp [hF]) ?_
    exact ⟨i + 1, _, Q, L, by omega, (hsF _ hdb).symm, (hsQ _ hdb).symm, (hsL _ hdb).symm, by simp [eHp, eHb]⟩
   | false =>
    have hjx := ixO_none ho
    refine (eindex_q h k Q h.fins[i].1 false).go [(0, [])] (by simp (maxSteps := 1000000) [hF, eHp, eHb, hjx]) ?_;rintro av X κ ⟨rfl, rfl, rfl⟩;simp (maxSteps := 1000000) [hF, eHp, eHb, hjx]
    repeat first|refine n1 ?_|refine n2 ?_|(refine nc ?_;simp (maxSteps := 1000000) [hF])
    have hdb : (deadB h true fun x => FE.contains x) h.fins[i] = true := by simp [deadB, hin, ho]
    refine ghostL 0 [.d, .f 8] ?_;simp (maxSteps := 1000000) [hF, St.lift, AV.lift, liftPl, stripP, nodeAV, isNode]
    repeat first|((refine dr 16 0 [0, 1, 7, 8, 9, 10, 11] [0, 1, 7, 8, 9, 10, 11] [] [⟨0, 1, 39614081257132168796771975168, 5⟩, ⟨0, 1, 79228162514264337593543950336, 5⟩, ⟨2, 79228162514264337593543950336, 158456325028528675187087900672, 5⟩, ⟨4, 158456325028528675187087900672, 316912650057057350374175801344, 5⟩, ⟨8, 316912650057057350374175801344, 633825300114114700748351602688, 6⟩, ⟨0, 2048, 1267650600228229401496703205376, 5⟩, ⟨32, 1267650600228229401496703205376, 2535301200456458802993406410752, 6⟩, ⟨64, 2535301200456458802993406410752, 5070602400912917605986812821504, 4⟩, ⟨144, 5704427701027032306735164424192, 10141204801825835211973625643008, 0⟩, ⟨511, 39614081257132168796771975168, 20282409603651670423947251286016, 5⟩, ⟨1023, 20282409603651670423947251286016, 40564819207303340847894502572032, 5⟩, ⟨1535, 50706024009129176059868128215040, 0, 0⟩] (.take 0 (.take 1 (.take 2 (.take 3 (.take 4 (.take 5 (.take 6 (.fork (.alt 7 (.fork (.alt 8 (.take 9 (.take 10 (.fork (.alt 11 (.done) (.nil))))) (.nil))) (.nil)))))))))) (.run [0, 1, 2, 3, 4, 5, 6, 7, 8, 9, 10, 11] (.done)) ?_;simp only [drs]);simp (maxSteps := 1000000) [hF, hp3, c3, c4])
    refine VS.widen [(0, [.d])] (by simp [covers, mpre]) ?_
    refine VS.pick [0, 1, 7, 8, 9, 10, 11] [0, 1, 2, 3, 4] (by simp [hF]) ?_;simp [hF]
    have hd1 : dInts [h.fins[i].1] = .cons (.val (.int .i64 h.fins[i].1)) .nil := rfl
    repeat first|(refine rg 17 [0, 1, 7, 8, 9, 10, 11] [0, 1, 7, 8, 9, 10] [] ?_;simp (maxSteps := 1000000) [hF])
    refine (ereach_q h k (Q ++ [h.fins[i].2]) [h.fins[i].1] L true true (by simp) (by omega) hv1).go [(0, []), (5, []), (1, [])] (by simp (maxSteps := 1000000) [hF, eHp, eHb, hd1]) ?_;rintro av X κ ⟨rfl, rfl, rfl⟩;simp (maxSteps := 1000000) [hF, eHp, eHb, hd1]
    repeat first|refine n4 ?_|refine n5 ?_|refine n6 ?_|(refine rg 12 [0, 1, 7, 8, 9, 10] [0, 1, 7, 8, 9, 10] [] ?_;simp (maxSteps := 1000000) [hF, hw])
    refine nextK.of [0, 1, 7, 8, 9, 10] [0, 6, 2, 3] (m - 1) (by omega) (by simp [hF]) ?_
    exact ⟨i + 1, F, Q ++ [h.fins[i].2], _, by omega, (hsF _ hdb).symm, (hsQ _ hdb).symm, (hsL _ hdb).symm, by simp [eHp, eHb]⟩
 ·have hx : liveHp h true (fun x => (firstE h true).contains x) = { h with fins := F, queue := Q } := by
   rw [liveHp, hDB, hFd, hQd, List.take_of_length_le (by omega)]
  have hx : liveHp h true (fun x => decide (x ∈ firstE h true)) = { h with fins := F, queue := Q } := by
   rw [show (fun x => decide (x ∈ firstE h true)) = fun x => (firstE h true).contains x from funext fun x => by simp]; exact hx
  have hy : liveE h true = L := by rw [hLd, List.take_of_length_le (by omega)]; rfl
  have hm := dEns_mid_all F
  repeat first|refine n1 ?_|refine n7 ?_|((first|refine rg 18 [0, 7, 9] [7] [] ?_|refine rg 19 [7] [4] [] ?_);simp (maxSteps := 1000000) [hF, eHp, eHb, hm])
  refine VS.widen [(0, [.d])] (by simp [covers, mpre]) ?_
  (try refine nr ?_);(repeat first|refine nb_ ?_|refine nl_ ?_);refine endK.o [4] [0, 1] [(0, [.d])] ?_;simp [hF, retK, covers, mpre, hx, hy, eHp, eHb]
/- (*cabochon/cabochonref27.Heap).No -/
theorem no_c (h : Hp) : Meets Try.prog 50 [eHp h] (.cons (.ptr 0 [.d]) .nil) fun av X κ => av = avBool false ∧ X = [eHp h] ∧ κ = [] :=
 warmE (no_ok h) rfl rfl (by simp) rfl
theorem ethere_c (h : Hp) (k : Ok h) (x : Int) : Meets Try.prog 91 [eHp h] (.cons (.ptr 0 [.d]) (.cons (avInt x) .nil)) fun av X κ => av = avBool (there h x) ∧ X = [eHp h] ∧ κ = [] :=
 warmE (ethere_ok h k x) rfl rfl (by simp) rfl
theorem easked_c (h : Hp) (k : Ok h) (x : Int) : Meets Try.prog 93 [eHp h] (.cons (.ptr 0 [.d]) (.cons (avInt x) .nil)) fun av X κ => av = avInt (askedOf h x) ∧ X = [eHp h] ∧ κ = [] :=
 warmE (easked_ok h k x) rfl rfl (by simp) rfl
theorem eslot_c (h : Hp) (k : Ok h) (x s : Int) : Meets Try.prog 90 [eHp h] (.cons (.ptr 0 [.d]) (.cons (avInt x) (.cons (avInt s) .nil))) fun av X κ => av = avInt (slotErr h x s 0) ∧ X = [eHp h] ∧ κ = [] :=
 warmE (eslot_ok h k x s) rfl rfl (by simp) rfl
theorem eindex_c (l : List Ob) (x : Int) (ex : Bool) (hl : l.length ≤ 100000000) : Meets Try.prog 82 [.sl true () 3 (dObs true l)] (.cons (.sub 0 [] 0 l.length ex) (.cons (avInt x) .nil)) fun av X κ => av = avInt (ixO l x) ∧ X = [.sl true () 3 (dObs true l)] ∧ κ = [] :=
 warmL (eindex_ok ex l x hl) (by simp only [AV.chilled, dObs_mid_all, freeze_obs]) rfl (by simp) rfl
theorem esize_c (l : List Ob) (ex : Bool) (hl : l.length ≤ 100000) (hu : usedN l ≤ 100000) : Meets Try.prog 86 [.sl true () 3 (dObs true l)] (.cons (.sub 0 [] 0 l.length ex) .nil) fun av X κ => av = avInt (usedN l) ∧ X = [.sl true () 3 (dObs true l)] ∧ κ = [] :=
 warmL (esize_ok l ex hl hu) (by simp only [AV.chilled, dObs_mid_all, freeze_obs]) rfl (by simp) rfl

/- (*cabochon/cabochonref27.Heap).Place -/
theorem eplace_ok (h : Hp) (k : Ok h) (x : Int) : Meets Try.prog 84 [] (.cons (avE h) (.cons (avInt x) .nil)) fun av X κ => av = avPl (placeOf h x) ∧ X = [] ∧ κ = [] := by
 obtain ⟨b1, b2, b3, b4⟩ := k.lens
 refine fb Try.func84 Try.ntmps84 [.tmp 4, .tmp 5, .tmp 6, .tmp 7] fun w0 I0 F0 hF => ?_
 repeat first|refine n1 ?_|((first|refine rg 0 [0, 1] [0, 1] [] ?_|refine rg 1 [0, 1] [0, 1, 8] [] ?_);simp (maxSteps := 1000000) [hF])
 by_cases hz : askedOf h x = 0
 ·have hth := asked_there hz
  refine (easked_ok h k x).go [] (by simp (maxSteps := 1000000) [hF, hz]) ?_;rintro av X κ ⟨rfl, rfl, rfl⟩;simp (maxSteps := 1000000) [hF, hz]
  repeat first|refine n1 ?_|refine n2 ?_|((first|refine rg 2 [0, 1, 8] [0, 1, 8, 15] [] ?_|refine rg 4 [0, 1] [0, 1, 9] [] ?_|refine nc ?_);simp (maxSteps := 1000000) [hF, hz, eHb])
  cases hy : inL h.young x with
  | true =>
   obtain ⟨i, hi, hix, hh, hsl, hfd, htk, _⟩ := inL_at hy
   have hc : placeOf h x = (false, (usedN (h.young.take i) : Int), h.young[i].age, 0) := by rw [placeOf, if_neg (by simp [hz]), if_pos hy, htk, hfd]; rfl
   have hut := usedN_take h.young i
   have htl : (h.young.take i).length ≤ 100000 := by rw [List.length_take]; omega
   have hm : (dObs false h.young).mid 0 i = dObs false (h.young.take i) := by rw [dObs_mid]; simp
   have hn := dObs_nth (o := false) hi
   refine (eindex_ok false h.young x (by omega)).go [] (by simp (maxSteps := 1000000) [hF, hix]) ?_;rintro av X κ ⟨rfl, rfl, rfl⟩;simp (maxSteps := 1000000) [hF, hix]
   repeat first|refine n1 ?_|((first|refine rg 5 [0, 1, 9] [0, 1, 9, 24] [] ?_|(refine dr 6 64 [0, 9] [4, 5, 6, 7] [] [⟨0, 1, 33554432, 5⟩, ⟨1, 33554432, 67108864, 5⟩, ⟨2, 67108864, 134217728, 5⟩, ⟨4, 134217728, 268435456, 6⟩, ⟨0, 512, 536870912, 5⟩, ⟨24, 805306368, 1073741824, 5⟩, ⟨32, 1073741824, 2147483648, 0⟩, ⟨0, 1, 4294967296, 5⟩, ⟨128, 4294967296, 8589934592, 5⟩, ⟨256, 8589934592, 17179869184, 5⟩, ⟨512, 17179869184, 34359738368, 6⟩, ⟨0, 512, 68719476736, 5⟩, ⟨3072, 103079215104, 137438953472, 5⟩, ⟨4096, 137438953472, 274877906944, 5⟩, ⟨8192, 274877906944, 549755813888, 6⟩, ⟨64, 0, 16, 5⟩, ⟨32895, 2147483648, 32, 5⟩, ⟨131071, 549755813888, 64, 5⟩, ⟨262143, 0, 128, 5⟩] (.take 0 (.take 1 (.take 2 (.take 3 (.take 4 (.take 5 (.take 7 (.take 8 (.take 9 (.take 10 (.take 11 (.take 12 (.take 13 (.take 14 (.fork (.alt 6 (.take 15 (.take 16 (.take 17 (.take 18 (.done))))) (.nil))))))))))))))))) (.run [0, 1, 2, 3, 4, 5, 7, 8, 9, 10, 11, 12, 13, 14] (.chk 6 (.run [6, 15, 16, 17, 18] (.done)))) ?_;simp only [drs])|refine nc ?_);simp (maxSteps := 1000000) [hF, eHb, hm, hn, hi])
   refine ⟨by omega, ?_⟩
   refine (esize_ok (h.young.take i) false htl (by omega)).go [] (by simp (maxSteps := 1000000) [hF]) ?_;rintro av X κ ⟨rfl, rfl, rfl⟩;simp (maxSteps := 1000000) [hF]
   (try refine nr ?_);(repeat first|refine nb_ ?_|refine nl_ ?_);refine endK.o [4, 5, 6, 7] [] [] ?_;simp [hF, retK, covers, mpre, hc]
  | false =>
   have ho : inL h.old x = true := by simpa [there, hy] using hth
   have hix0 := ixO_none hy
   obtain ⟨i, hi, hix, hh, hsl, hfd, htk, _⟩ := inL_at ho
   have hc : placeOf h x = (true, (usedN (h.old.take i) : Int), h.old[i].age, 0) := by rw [placeOf, if_neg (by simp [hz]), if_neg (by simp [hy]), htk, hfd]; rfl
   have hut := usedN_take h.old i
   have htl : (h.old.take i).length ≤ 100000 := by rw [List.length_take]; omega
   have hm : (dObs false h.old).mid 0 i = dObs false (h.old.take i) := by rw [dObs_mid]; simp
   have hn := dObs_nth (o := false) hi
   refine (eindex_ok false h.young x (by omega)).go [] (by simp (maxSteps := 1000000) [hF, hix0]) ?_;rintro av X κ ⟨rfl, rfl, rfl⟩;simp (maxSteps := 1000000) [hF, hix0]
   repeat first|refine n1 ?_|refine n2 ?_|((first|refine rg 5 [0, 1, 9] [0, 1, 9, 24] [] ?_|refine rg 7 [0, 1] [0, 10] [] ?_|refine nc ?_);simp (maxSteps := 1000000) [hF, eHb])
   refine (eindex_ok false h.old x (by omega)).go [] (by simp (maxSteps := 1000000) [hF, hix]) ?_;rintro av X κ ⟨rfl, rfl, rfl⟩;simp (maxSteps := 1000000) [hF, hix]
   repeat first|refine n1 ?_|((refine dr 8 64 [0, 10] [4, 5, 6, 7] [] [⟨0, 1, 70368744177664, 5⟩, ⟨1, 70368744177664, 140737488355328, 5⟩, ⟨2, 140737488355328, 281474976710656, 5⟩, ⟨4, 281474976710656, 562949953421312, 6⟩, ⟨0, 1024, 1125899906842624, 5⟩, ⟨24, 1688849860263936, 2251799813685248, 5⟩, ⟨32, 2251799813685248, 4503599627370496, 0⟩, ⟨0, 1, 9007199254740992, 5⟩, ⟨128, 9007199254740992, 18014398509481984, 5⟩, ⟨256, 18014398509481984, 36028797018963968, 5⟩, ⟨512, 36028797018963968, 72057594037927936, 6⟩, ⟨0, 1024, 144115188075855872, 5⟩, ⟨3072, 216172782113783808, 288230376151711744, 5⟩, ⟨4096, 288230376151711744, 576460752303423488, 5⟩, ⟨8192, 576460752303423488, 1152921504606846976, 6⟩, ⟨64, 0, 16, 5⟩, ⟨32895, 4503599627370496, 32, 5⟩, ⟨131071, 1152921504606846976, 64, 5⟩, ⟨262143, 0, 128, 5⟩] (.take 0 (.take 1 (.take 2 (.take 3 (.take 4 (.take 5 (.take 7 (.take 8 (.take 9 (.take 10 (.take 11 (.take 12 (.take 13 (.take 14 (.fork (.alt 6 (.take 15 (.take 16 (.take 17 (.take 18 (.done))))) (.nil))))))))))))))))) (.run [0, 1, 2, 3, 4, 5, 7, 8, 9, 10, 11, 12, 13, 14] (.chk 6 (.run [6, 15, 16, 17, 18] (.done)))) ?_;simp only [drs]);simp (maxSteps := 1000000) [hF, eHb, hm, hn, hi])
   refine ⟨by omega, ?_⟩
   refine (esize_ok (h.old.take i) false htl (by omega)).go [] (by simp (maxSteps := 1000000) [hF]) ?_;rintro av X κ ⟨rfl, rfl, rfl⟩;simp (maxSteps := 1000000) [hF]
   (try refine nr ?_);(repeat first|refine nb_ ?_|refine nl_ ?_);refine endK.o [4, 5, 6, 7] [] [] ?_;simp [hF, retK, covers, mpre, hc]
 ·have hc : placeOf h x = (false, 0, 0, askedOf h x) := by simp [placeOf, hz]
  refine (easked_ok h k x).go [] (by simp (maxSteps := 1000000) [hF, hz]) ?_;rintro av X κ ⟨rfl, rfl, rfl⟩;simp (maxSteps := 1000000) [hF, hz]
  repeat first|refine n1 ?_|((first|refine rg 2 [0, 1, 8] [0, 1, 8, 15] [] ?_|refine rg 3 [8] [4, 5, 6, 7] [] ?_|refine nc ?_);simp (maxSteps := 1000000) [hF, hz])
  (try refine nr ?_);(repeat first|refine nb_ ?_|refine nl_ ?_);refine endK.o [4, 5, 6, 7] [] [] ?_;simp [hF, retK, covers, mpre, hc]

/- (*cabochon/cabochonref27.Heap).Weak -/
theorem eweak_ok (h : Hp) (k : Ok h) (hwl : h.weak.length ≤ 1000000) (x t : Int) : Meets Try.prog 66 [eHp h] (.cons (.ptr 0 [.d]) (.cons (avInt x) (.cons (avInt t) .nil)))
  fun av X κ => av = two (weakOf h x t).2 ∧ X = [eHp (weakOf h x t).1] ∧ κ = [(0, [.d])] := by
 have hp := dEns_push h.weak x t
 have hm := dEns_mid1 h.weak (x, t)
 have c1 : (h.weak.length + 1) * 16 ≤ 140737488355328 := by omega
 have c2 : h.weak.length ≤ 9223372036854775806 := by omega
 have hw : IntKind.i64.wrap ((h.weak.length : Int) + 1 - 1) = h.weak.length := by rw [IntWalk.i64_in _ (by omega)]; omega
 have hw' : IntKind.i64.wrap (h.weak.length : Int) = h.weak.length := IntWalk.i64_in _ (by omega)
 refine fb Try.func66 Try.ntmps66 [.tmp 6, .tmp 7] fun w0 I0 F0 hF => ?_
 repeat first|refine n1 ?_|((first|refine rg 0 [0, 1, 2] [0, 1, 2] [] ?_|refine rg 1 [0, 1, 2] [0, 1, 2, 8] [] ?_);simp (maxSteps := 1000000) [hF])
 by_cases hz : askedOf h x = 0
 ·have hc : weakOf h x t = ({ h with weak := h.weak ++ [(x, t)] }, (h.weak.length : Int), 0) := by simp [weakOf, hz]
  refine (easked_c h k x).go [(0, [])] (by simp (maxSteps := 1000000) [hF, hz, eHp]) ?_;rintro av X κ ⟨rfl, rfl, rfl⟩;simp (maxSteps := 1000000) [hF, hz, eHp]
  repeat first|refine n1 ?_|refine n2 ?_|((first|refine rg 2 [0, 1, 2, 8] [0, 1, 2, 8, 13] [] ?_|refine nc ?_);simp (maxSteps := 1000000) [hF, hz])
  refine ghostL 0 [.d, .f 6] ?_;simp (maxSteps := 1000000) [hF, St.lift, AV.lift, liftPl, stripP, nodeAV, isNode, eHb]
  repeat first|refine n1 ?_|((first|refine rg 4 [0, 1, 2] [0] [] ?_|refine rg 5 [0] [6, 7] [] ?_);simp (maxSteps := 1000000) [hF, hp, hm, c1, c2, hw, hw'])
  refine VS.widen [(0, [.d])] (by simp [covers, mpre]) ?_
  (try refine nr ?_);(repeat first|refine nb_ ?_|refine nl_ ?_);refine endK.o [6, 7] [0] [(0, [.d])] ?_;simp [hF, retK, covers, mpre, hc, eHp, eHb]
 ·have hc : weakOf h x t = (h, 0, askedOf h x) := by simp [weakOf, hz]
  refine (easked_c h k x).go [(0, [])] (by simp (maxSteps := 1000000) [hF, hz, eHp]) ?_;rintro av X κ ⟨rfl, rfl, rfl⟩;simp (maxSteps := 1000000) [hF, hz, eHp]
  repeat first|refine n1 ?_|((first|refine rg 2 [0, 1, 2, 8] [0, 1, 2, 8, 13] [] ?_|refine rg 3 [8] [6, 7] [] ?_|refine nc ?_);simp (maxSteps := 1000000) [hF, hz])
  refine VS.widen [(0, [.d])] (by simp [covers, mpre]) ?_
  (try refine nr ?_);(repeat first|refine nb_ ?_|refine nl_ ?_);refine endK.o [6, 7] [0] [(0, [.d])] ?_;simp [hF, retK, covers, mpre, hc, eHp]

/- (*cabochon/cabochonref27.Heap).Final -/
theorem efinal_ok (h : Hp) (k : Ok h) (hwl : h.fins.length ≤ 1000000) (x t : Int) : Meets Try.prog 67 [eHp h] (.cons (.ptr 0 [.d]) (.cons (avInt x) (.cons (avInt t) .nil)))
  fun av X κ => av = avInt (finalOf h x t).2 ∧ X = [eHp (finalOf h x t).1] ∧ κ = [(0, [.d])] := by
 have hp := dEns_push h.fins x t
 have hm := dEns_mid1 h.fins (x, t)
 have c1 : (h.fins.length + 1) * 16 ≤ 140737488355328 := by omega
 have c2 : h.fins.length ≤ 9223372036854775806 := by omega
 refine fb Try.func67 Try.ntmps67 [.tmp 6] fun w0 I0 F0 hF => ?_
 repeat first|refine n1 ?_|((first|refine rg 0 [0, 1, 2] [0, 1, 2] [] ?_|refine rg 1 [0, 1, 2] [0, 1, 2, 7] [] ?_);simp (maxSteps := 1000000) [hF])
 by_cases hz : askedOf h x = 0
 ·have hc : finalOf h x t = ({ h with fins := h.fins ++ [(x, t)] }, 0) := by simp [finalOf, hz]
  refine (easked_c h k x).go [(0, [])] (by simp (maxSteps := 1000000) [hF, hz, eHp]) ?_;rintro av X κ ⟨rfl, rfl, rfl⟩;simp (maxSteps := 1000000) [hF, hz, eHp]
  repeat first|refine n1 ?_|refine n2 ?_|((first|refine rg 2 [0, 1, 2, 7] [0, 1, 2, 7, 12] [] ?_|refine nc ?_);simp (maxSteps := 1000000) [hF, hz])
  refine ghostL 0 [.d, .f 7] ?_;simp (maxSteps := 1000000) [hF, St.lift, AV.lift, liftPl, stripP, nodeAV, isNode, eHb]
  repeat first|refine n1 ?_|((first|refine rg 4 [0, 1, 2] [] [] ?_|refine rg 5 [] [6] [] ?_);simp (maxSteps := 1000000) [hF, hz, hp, hm, c1, c2])
  refine VS.widen [(0, [.d])] (by simp [covers, mpre]) ?_
  (try refine nr ?_);(repeat first|refine nb_ ?_|refine nl_ ?_);refine endK.o [6] [0] [(0, [.d])] ?_;simp [hF, retK, covers, mpre, hc, eHp, eHb]
 ·have hc : finalOf h x t = (h, askedOf h x) := by simp [finalOf, hz]
  refine (easked_c h k x).go [(0, [])] (by simp (maxSteps := 1000000) [hF, hz, eHp]) ?_;rintro av X κ ⟨rfl, rfl, rfl⟩;simp (maxSteps := 1000000) [hF, hz, eHp]
  repeat first|refine n1 ?_|((first|refine rg 2 [0, 1, 2, 7] [0, 1, 2, 7, 12] [] ?_|refine rg 3 [7] [6] [] ?_|refine nc ?_);simp (maxSteps := 1000000) [hF, hz])
  refine VS.widen [(0, [.d])] (by simp [covers, mpre]) ?_
  (try refine nr ?_);(repeat first|refine nb_ ?_|refine nl_ ?_);refine endK.o [6] [0] [(0, [.d])] ?_;simp [hF, retK, covers, mpre, hc, eHp]

/- (*cabochon/cabochonref27.Heap).Take -/
theorem etake_ok (h : Hp) (hql : h.queue.length ≤ 1000000) : Meets Try.prog 68 [eHp h] (.cons (.ptr 0 [.d]) .nil)
  fun av X κ => av = two (takeOf h).2 ∧ X = [eHp (takeOf h).1] ∧ κ = [(0, [.d])] := by
 refine fb Try.func68 Try.ntmps68 [.tmp 2, .tmp 3] fun w0 I0 F0 hF => ?_
 repeat first|refine n1 ?_|((first|refine rg 0 [0] [0] [] ?_|refine rg 1 [0] [0, 6] [] ?_);simp (maxSteps := 1000000) [hF])
 refine (no_c h).go [(0, [])] (by simp (maxSteps := 1000000) [hF, eHp]) ?_;rintro av X κ ⟨rfl, rfl, rfl⟩;simp (maxSteps := 1000000) [hF, eHp]
 cases hq : h.queue with
 | nil =>
  have hc : takeOf h = (h, 0, 3) := by simp [takeOf, hq]
  repeat first|refine n1 ?_|refine n2 ?_|((first|refine rg 3 [0] [0, 12] [] ?_|refine rg 4 [] [2, 3] [] ?_|refine nc ?_);simp (maxSteps := 1000000) [hF, eHb, hq])
  refine VS.widen [(0, [.d])] (by simp [covers, mpre]) ?_
  (try refine nr ?_);(repeat first|refine nb_ ?_|refine nl_ ?_);refine endK.o [2, 3] [0] [(0, [.d])] ?_;simp [hF, retK, covers, mpre, hc, eHp, eHb, hq]
 | cons x q =>
  have hc : takeOf h = ({ h with queue := q }, x, 0) := by simp [takeOf, hq]
  have hn0' : (dInts (x :: q)).nth 0 = .val (.int .i64 x) := by rw [dInts_nth (by simp)]; rfl
  have hm : (dInts (x :: q)).mid 1 q.length = dInts q := by rw [ints_mid]; simp
  have c1 : ¬ (q.length : Int) + 1 = 0 := by omega
  repeat first|refine n1 ?_|refine n2 ?_|((first|refine rg 3 [0] [0, 12] [] ?_|refine nc ?_);simp (maxSteps := 1000000) [hF, eHb, hq, c1])
  refine ghostL 0 [.d, .f 8] ?_;simp (maxSteps := 1000000) [hF, St.lift, AV.lift, liftPl, stripP, nodeAV, isNode, eHb, hq]
  repeat first|refine n1 ?_|((first|refine rg 5 [0] [0, 4] [] ?_|refine rg 6 [0, 4] [4] [] ?_|refine rg 7 [4] [2, 3] [] ?_);simp (maxSteps := 1000000) [hF, hn0', hm, c1])
  refine VS.widen [(0, [.d])] (by simp [covers, mpre]) ?_
  (try refine nr ?_);(repeat first|refine nb_ ?_|refine nl_ ?_);refine endK.o [2, 3] [0] [(0, [.d])] ?_;simp [hF, retK, covers, mpre, hc, eHp, eHb, hq]

/- cabochon/cabochonref27.New -/
theorem enew_bad (a b : Int) (hn : ¬ ((8 ≤ a ∧ a ≤ 1000) ∧ 8 ≤ b ∧ b ≤ 1000)) : Meets Try.prog 29 [] (.cons (avInt a) (.cons (avInt b) .nil)) fun av X κ => av = avTwo avNil 1 ∧ X = [] ∧ κ = [] := by
 by_cases h1 : a < 8
 ·refine fb Try.func29 Try.ntmps29 [.tmp 4, .tmp 5] fun w0 I0 F0 hF => ?_
  repeat first|refine n1 ?_|((first|refine rg 0 [0, 1] [0, 1] [] ?_|refine rg 1 [0, 1] [0, 1, 19] [(2, 8), (6, 12), (10, 16)] ?_|refine rg 2 [] [4, 5] [] ?_|refine nc ?_);simp (maxSteps := 1000000) [hF, h1])
  (try refine nr ?_);(repeat first|refine nb_ ?_|refine nl_ ?_);refine endK.o [4, 5] [] [] ?_;simp [hF, retK, covers, mpre]
 by_cases h2 : 1000 < a
 ·refine fb Try.func29 Try.ntmps29 [.tmp 4, .tmp 5] fun w0 I0 F0 hF => ?_
  repeat first|refine n1 ?_|((first|refine rg 0 [0, 1] [0, 1] [] ?_|refine rg 1 [0, 1] [0, 1, 19] [(2, 8), (6, 12), (10, 16)] ?_|refine rg 2 [] [4, 5] [] ?_|refine nc ?_);simp (maxSteps := 1000000) [hF, h1, h2])
  (try refine nr ?_);(repeat first|refine nb_ ?_|refine nl_ ?_);refine endK.o [4, 5] [] [] ?_;simp [hF, retK, covers, mpre]
 by_cases h3 : b < 8
 ·refine fb Try.func29 Try.ntmps29 [.tmp 4, .tmp 5] fun w0 I0 F0 hF => ?_
  repeat first|refine n1 ?_|((first|refine rg 0 [0, 1] [0, 1] [] ?_|refine rg 1 [0, 1] [0, 1, 19] [(2, 8), (6, 12), (10, 16)] ?_|refine rg 2 [] [4, 5] [] ?_|refine nc ?_);simp (maxSteps := 1000000) [hF, h1, h2, h3])
  (try refine nr ?_);(repeat first|refine nb_ ?_|refine nl_ ?_);refine endK.o [4, 5] [] [] ?_;simp [hF, retK, covers, mpre]
 have h4 : 1000 < b := by omega
 refine fb Try.func29 Try.ntmps29 [.tmp 4, .tmp 5] fun w0 I0 F0 hF => ?_
 repeat first|refine n1 ?_|((first|refine rg 0 [0, 1] [0, 1] [] ?_|refine rg 1 [0, 1] [0, 1, 19] [(2, 8), (6, 12), (10, 16)] ?_|refine rg 2 [] [4, 5] [] ?_|refine nc ?_);simp (maxSteps := 1000000) [hF, h1, h2, h3, h4])
 (try refine nr ?_);(repeat first|refine nb_ ?_|refine nl_ ?_);refine endK.o [4, 5] [] [] ?_;simp [hF, retK, covers, mpre]
theorem enew_ok (a b : Int) (h1 : 8 ≤ a ∧ a ≤ 1000) (h2 : 8 ≤ b ∧ b ≤ 1000) : Meets Try.prog 29 [] (.cons (avInt a) (.cons (avInt b) .nil)) fun av X κ => av = avTwo (.ptr 0 [.d]) 0 ∧ X = [eHp (bornOf a b)] ∧ κ = [] := by
 have g1 : ¬ a < 8 := by omega
 have g2 : ¬ 1000 < a := by omega
 have g3 : ¬ b < 8 := by omega
 have g4 : ¬ 1000 < b := by omega
 refine fb Try.func29 Try.ntmps29 [.tmp 4, .tmp 5] fun w0 I0 F0 hF => ?_
 repeat first|refine n1 ?_|refine n2 ?_|((first|refine rg 0 [0, 1] [0, 1] [] ?_|refine rg 1 [0, 1] [0, 1, 19] [(2, 8), (6, 12), (10, 16)] ?_|refine rg 3 [0, 1] [4, 5] [] ?_|refine nc ?_);simp (maxSteps := 1000000) [hF, g1, g2, g3, g4])
 (try refine nr ?_);(repeat first|refine nb_ ?_|refine nl_ ?_);refine endK.o [4, 5] [0] [] ?_;simp [hF, retK, covers, mpre, eHp, eHb, bornOf]
/-- The document's heap, whose spaces are anyhow. -/
def eHx (d0 d1 : D) (h : Hp) : D := .box true () (.agg (.cons (.val (.bool true)) (.cons (.val (.int .i64 h.ry)) (.cons (.val (.int .i64 h.ro)) (.cons d0 (.cons d1 (.cons (.sl true () 1 (dInts h.roots))
 (.cons (.sl true () 2 (dEns h.weak)) (.cons (.sl true () 2 (dEns h.fins)) (.cons (.sl true () 1 (dInts h.queue)) (.cons (.val (.int .i64 h.next)) .nil)))))))))))
@[simp high] theorem head_eHx (d0 d1 : D) (h : Hp) : isHead (eHx d0 d1 h) = true := by rw [eHx, isHead]

theorem promo_len (ro : Int) : ∀ l old stay : List Ob, (promo ro l old stay).1.length + (promo ro l old stay).2.length = l.length + old.length + stay.length
 | [], old, stay => by simp [promo]
 | o :: l, old, stay => by
  rw [promo]
  split
  ·rw [promo_len ro l]; simp; omega
  ·rw [promo_len ro l]; simp; omega
/- (*cabochon/cabochonref27.Heap).there -/
theorem ethere_l (h : Hp) (b1 : h.young.length ≤ 1000) (b2 : h.old.length ≤ 2000) (x : Int) : Meets Try.prog 91 [] (.cons (avE h) (.cons (avInt x) .nil)) fun av X κ => av = avBool (there h x) ∧ X = [] ∧ κ = [] := by
 refine fb Try.func91 Try.ntmps91 [.tmp 4] fun w0 I0 F0 hF => ?_
 repeat first|refine n1 ?_|((first|refine rg 0 [0, 1] [0, 1] [] ?_|refine rg 1 [0, 1] [4] [(7, 12)] ?_);simp (maxSteps := 1000000) [hF, eHb])
 cases hy : inL h.young x with
 | true =>
  obtain ⟨i, hi, hix, _⟩ := inL_at hy
  have hc : there h x = true := by simp [there, hy]
  refine (eindex_ok false h.young x (by omega)).go [] (by simp (maxSteps := 1000000) [hF, hix]) ?_;rintro av X κ ⟨rfl, rfl, rfl⟩;simp (maxSteps := 1000000) [hF, hix]
  (try refine nr ?_);(repeat first|refine nb_ ?_|refine nl_ ?_);refine endK.o [4] [] [] ?_;simp [hF, retK, covers, mpre, hc]
 | false =>
  have hix := ixO_none hy
  refine (eindex_ok false h.young x (by omega)).go [] (by simp (maxSteps := 1000000) [hF, hix, eHb]) ?_;rintro av X κ ⟨rfl, rfl, rfl⟩;simp (maxSteps := 1000000) [hF, hix, eHb]
  cases ho : inL h.old x with
  | true =>
   obtain ⟨i, hi, hiy, _⟩ := inL_at ho
   have hc : there h x = true := by simp [there, hy, ho]
   refine (eindex_ok false h.old x (by omega)).go [] (by simp (maxSteps := 1000000) [hF, hiy]) ?_;rintro av X κ ⟨rfl, rfl, rfl⟩;simp (maxSteps := 1000000) [hF, hiy]
   (try refine nr ?_);(repeat first|refine nb_ ?_|refine nl_ ?_);refine endK.o [4] [] [] ?_;simp [hF, retK, covers, mpre, hc]
  | false =>
   have hiy := ixO_none ho
   have hc : there h x = false := by simp [there, hy, ho]
   refine (eindex_ok false h.old x (by omega)).go [] (by simp (maxSteps := 1000000) [hF, hiy]) ?_;rintro av X κ ⟨rfl, rfl, rfl⟩;simp (maxSteps := 1000000) [hF, hiy]
   (try refine nr ?_);(repeat first|refine nb_ ?_|refine nl_ ?_);refine endK.o [4] [] [] ?_;simp [hF, retK, covers, mpre, hc]
theorem ethere_lc (h : Hp) (b1 : h.young.length ≤ 1000) (b2 : h.old.length ≤ 2000) (x : Int) : Meets Try.prog 91 [eHp h] (.cons (.ptr 0 [.d]) (.cons (avInt x) .nil)) fun av X κ => av = avBool (there h x) ∧ X = [eHp h] ∧ κ = [] :=
 warmE (ethere_l h b1 b2 x) rfl rfl (by simp) rfl

/- (*cabochon/cabochonref27.Heap).live -/
theorem elivew_q (h : Hp) (k : Ok h) (minor : Bool) (hfl : h.fins.length ≤ 1000000) (hql : h.queue.length ≤ 1000000) : Meets Try.prog 107 [eHp h] (.cons (.ptr 0 [.d]) (.cons (avBool (!minor)) .nil))
  fun av X κ => ∃ (F : List (Int × Int)) (Q LV : List Int), F = (h.fins.filter fun f => !deadB h minor (fun x => (firstE h minor).contains x) f) ∧ Q = h.queue ++ (h.fins.filter (deadB h minor fun x => (firstE h minor).contains x)).map (·.2) ∧ LV = liveE h minor ∧
   av = .sub 1 [] 0 LV.length false ∧ X = [eHp { h with fins := F, queue := Q }, .sl true () 1 (dInts LV)] ∧ κ = [(0, [.d])] := by
 cases minor with
 | false => exact Meets.mono (elivew_false h k hfl hql) fun av X κ ⟨h1, h2, h3⟩ => ⟨_, _, _, rfl, rfl, rfl, h1, h2, h3⟩
 | true => exact Meets.mono (elivew_true h k hfl hql) fun av X κ ⟨h1, h2, h3⟩ => ⟨_, _, _, rfl, rfl, rfl, h1, h2, h3⟩
theorem liveE_len {h : Hp} (k : Ok h) (minor : Bool) : (liveE h minor).length ≤ 2000 := metE_len k minor k.fins

/- (*cabochon/cabochonref27.Heap).collect -/
theorem ecollect_ok (h : Hp) (k : Ok h) (minor : Bool) (hwl : h.weak.length ≤ 1000000) (hfl : h.fins.length ≤ 1000000) (hql : h.queue.length ≤ 1000000) (hag : ∀ o ∈ h.young, o.age ≤ 1000000) : Meets Try.prog 92 [eHp h] (.cons (.ptr 0 [.d]) (.cons (avBool (!minor)) .nil))
  fun av X κ => av = avInt (collectE h minor).2 ∧ X = [eHp (collectE h minor).1] ∧ κ = [(0, [.d])] := by
 obtain ⟨b1, b2, b3, b4⟩ := k.lens
 have hLl := liveE_len k minor
 have hw0 : IntKind.i64.wrap ((h.young.length : Int) + h.old.length) = (h.young.length : Int) + h.old.length := IntWalk.i64_in _ (by omega)
 refine fb Try.func92 Try.ntmps92 [.tmp 4] fun w0 I0 F0 hF => ?_
 repeat first|refine n1 ?_|((first|refine rg 0 [0, 1] [0, 1] [] ?_|refine rg 1 [0, 1] [0, 1, 5] [] ?_);simp (maxSteps := 1000000) [hF, eHp])
 refine (elivew_q h k minor hfl hql).go [(0, [])] (by simp (maxSteps := 1000000) [hF, eHp]) ?_;rintro av X κ ⟨F, Q, LV, hFf, hQ, hLV, rfl, rfl, rfl⟩;simp (maxSteps := 1000000) [hF, eHp]
 rw [← hLV] at hLl
 repeat first|refine n1 ?_|((first|(refine dr 2 0 [0, 1, 5] [0, 1, 5, 6] [] [⟨0, 1, 65536, 5⟩, ⟨1, 65536, 131072, 5⟩, ⟨2, 131072, 262144, 5⟩, ⟨4, 262144, 524288, 6⟩, ⟨8, 524288, 1048576, 5⟩, ⟨0, 1, 2097152, 5⟩, ⟨32, 2097152, 4194304, 5⟩, ⟨64, 4194304, 8388608, 5⟩, ⟨128, 8388608, 16777216, 6⟩, ⟨256, 16777216, 33554432, 5⟩, ⟨528, 34603008, 67108864, 5⟩, ⟨2047, 67108864, 64, 5⟩] (.take 0 (.take 1 (.take 2 (.take 3 (.take 4 (.take 5 (.take 6 (.take 7 (.take 8 (.take 9 (.take 10 (.take 11 (.done))))))))))))) (.run [0, 1, 2, 3, 4, 5, 6, 7, 8, 9, 10, 11] (.done)) ?_;simp only [drs])|refine rg 3 [0, 1, 5, 6] [0, 1, 5, 6, 7] [] ?_);simp (maxSteps := 1000000) [hF, eHb, hw0])
 refine VS.hold0 7 3 (by simp) ?_
 refine VS.widen [(0, [.d])] (by simp [covers, mpre]) ?_
 repeat first|refine n3 ?_|(refine rg 4 [0, 1, 5, 6, 7] [0, 1, 5, 6, 7, 8] [] ?_;simp (maxSteps := 1000000) [hF])
 refine VS.rounds (fun m st => ∃ (i : Nat) (acc : List Ob), i + m = h.old.length ∧ acc = (h.old.take i).filter (fun o : Ob => decide (o.handle ∈ LV) || minor) ∧ st = ⟨[(0, .ptr 0 [.d]), (1, avBool (!minor)), (5, .sub 1 [] 0 LV.length false), (6, avInt ((h.young.length : Int) + h.old.length)), (7, .sub 2 [] 0 acc.length false), (8, avInt i)],
   [eHx (.sl true () 3 (dObs true h.young)) (.sl true () 3 (dObsJ i h.old)) { h with fins := F, queue := Q }, .sl true () 1 (dInts LV), .sl true () 3 (dObs true acc)], [(0, [.d])], []⟩)
  ⟨h.old.length, 0, [], by omega, by simp, by simp [eHx, eHp, eHb, dObsJ_zero]⟩ ?_
 rintro m st ⟨i, acc, hi, hacc, rfl⟩
 have hal : acc.length ≤ 1000 := by
  rw [hacc]
  exact Nat.le_trans (List.length_filter_le _ _) (by rw [List.length_take]; omega)
 repeat first|refine n1 ?_|((first|refine rg 5 [0, 1, 5, 6, 7, 8] [0, 1, 5, 6, 7, 8, 33] [] ?_|refine nc ?_);simp (maxSteps := 1000000) [hF, eHx])
 refine ⟨fun hlt => ?_, fun hge => ?_⟩
 ·have hn0 := dObsJ_nth hlt
  have hn1 := dObsJ_nth1 hlt
  have hst := dObsJ_step hlt
  have hw : IntKind.i64.wrap ((i : Int) + 1) = (i + 1 : Nat) := by rw [IntWalk.i64_in _ (by omega)]; rfl
  have hp := dObs_push true acc h.old[i].handle h.old[i].age h.old[i].slots
  have hm1 := dObs_mid1 true acc ⟨h.old[i].handle, h.old[i].age, h.old[i].slots⟩
  have hm2 := dInts_mid h.old[i].slots
  have c1 : (acc.length + 1) * 40 ≤ 140737488355328 := by omega
  have c2 : acc.length ≤ 9223372036854775806 := by omega
  have hos : ∀ b, (decide (h.old[i].handle ∈ LV) || minor) = b → (h.old.take (i + 1)).filter (fun o : Ob => decide (o.handle ∈ LV) || minor) = if b = true then acc ++ [⟨h.old[i].handle, h.old[i].age, h.old[i].slots⟩] else acc := fun b hb => by
   rw [take_succ_at hlt, List.filter_append, ← hacc]
   cases b
   ·rw [List.filter_cons_of_neg (by rw [hb]; simp)]; simp
   ·rw [List.filter_cons_of_pos (by rw [hb])]; rfl
  refine ghostL 0 [.d, .f 4, .i i, .f 2] ?_;simp (maxSteps := 1000000) [hF, St.lift, AV.lift, liftPl, stripP, nodeAV, isNode, eHx, hn0, hlt, hst]
  cases minor with
  | true =>
   repeat first|refine n1 ?_|refine n2 ?_|refine n3 ?_|refine n4 ?_|refine n5 ?_|((first|refine rg 7 [0, 1, 5, 6, 7, 8] [0, 1, 5, 6, 7, 8, 49] [(2, 38)] ?_|refine rg 8 [0, 1, 5, 6, 7, 8] [0, 1, 5, 6, 7, 8] [] ?_|refine nc ?_);simp (maxSteps := 1000000) [hF, eHx, hn1, hlt, hp, hm1, hm2, c1, c2])
   refine VS.widen [(0, [.d])] (by simp [covers, mpre]) ?_
   repeat first|refine n4 ?_|refine n6 ?_|(refine rg 6 [0, 1, 5, 6, 7, 8] [0, 1, 5, 6, 7, 8] [] ?_;simp (maxSteps := 1000000) [hF, hw])
   refine nextK.of [0, 1, 5, 6, 7, 8] [0, 1, 2] (m - 1) (by omega) (by simp [hF]) ?_
   exact ⟨i + 1, _, by omega, (hos true (by simp)).symm, by simp [eHx]⟩
  | false =>
   repeat first|refine n1 ?_|refine n2 ?_|refine n3 ?_|(refine rg 7 [0, 1, 5, 6, 7, 8] [0, 1, 5, 6, 7, 8, 49] [(2, 38)] ?_;simp (maxSteps := 1000000) [hF, eHx, hn1, hlt])
   by_cases hin : h.old[i].handle ∈ LV
   ·have hh := hasN_iff.2 hin
    refine (ehas_c false LV h.old[i].handle (by omega)).go [(1, [])] (by simp (maxSteps := 1000000) [hF, hh]) ?_;rintro av X κ ⟨rfl, rfl, rfl⟩;simp (maxSteps := 1000000) [hF, hh]
    repeat first|refine n4 ?_|refine n5 ?_|((first|refine rg 8 [0, 1, 5, 6, 7, 8] [0, 1, 5, 6, 7, 8] [] ?_|refine nc ?_);simp (maxSteps := 1000000) [hF, eHx, hn1, hlt, hp, hm1, hm2, c1, c2])
    refine VS.widen [(0, [.d])] (by simp [covers, mpre]) ?_
    repeat first|refine n4 ?_|refine n6 ?_|(refine rg 6 [0, 1, 5, 6, 7, 8] [0, 1, 5, 6, 7, 8] [] ?_;simp (maxSteps := 1000000) [hF, hw])
    refine nextK.of [0, 1, 5, 6, 7, 8] [0, 1, 2] (m - 1) (by omega) (by simp [hF]) ?_
    exact ⟨i + 1, _, by omega, (hos true (by simp [hin])).symm, by simp [eHx]⟩
   ·have hh := hasN_no hin
    refine (ehas_c false LV h.old[i].handle (by omega)).go [(1, [])] (by simp (maxSteps := 1000000) [hF, hh]) ?_;rintro av X κ ⟨rfl, rfl, rfl⟩;simp (maxSteps := 1000000) [hF, hh]
    refine VS.widen [(0, [.d])] (by simp [covers, mpre]) ?_
    repeat first|refine n2 ?_|refine n4 ?_|refine n5 ?_|refine n6 ?_|((first|refine rg 6 [0, 1, 5, 6, 7, 8] [0, 1, 5, 6, 7, 8] [] ?_|refine nc ?_);simp (maxSteps := 1000000) [hF, hw])
    refine nextK.of [0, 1, 5, 6, 7, 8] [0, 1, 2] (m - 1) (by omega) (by simp [hF]) ?_
    exact ⟨i + 1, acc, by omega, (hos false (by simp [hin])).symm, by simp [eHx]⟩
 ·obtain rfl : i = h.old.length := by omega
  rw [List.take_of_length_le (Nat.le_refl _)] at hacc
  clear hi hge
  have hKOu : usedN acc ≤ 1000 := by
   have := (keepOld_len h minor fun x => decide (x ∈ LV)).2
   rw [← keepO_eq, ← hacc] at this
   omega
  have hKOr : (usedN acc : Int) ≤ h.ro := by
   have := (keepOld_len h minor fun x => decide (x ∈ LV)).2
   rw [← keepO_eq, ← hacc] at this
   have := k.usedO
   omega
  have hro := k.rooms.2.2
  have hYm : ∀ o ∈ h.young, 0 ≤ o.age ∧ o.age ≤ 1000000 ∧ o.slots.length ≤ 8 := fun o ho => by
   have := k.small o (by simp [obs, ho])
   exact ⟨this.2.2.2.2.1, hag o ho, this.2.2.2.1⟩
  obtain ⟨KY, hKY⟩ : ∃ KY, KY = h.young.filter fun o : Ob => decide (o.handle ∈ LV) := ⟨_, rfl⟩
  repeat first|refine n1 ?_|refine n7 ?_|(refine rg 9 [0, 5, 6, 7] [0, 5, 6, 7, 9] [] ?_;simp (maxSteps := 1000000) [hF])
  refine VS.hold0 9 3 (by simp) ?_
  repeat first|refine n3 ?_|(refine rg 10 [0, 5, 6, 7, 9] [0, 5, 6, 7, 9, 10] [] ?_;simp (maxSteps := 1000000) [hF])
  refine VS.rounds (fun m st => ∃ (j : Nat) (OC ST : List Ob), j + m = h.young.length ∧ promo h.ro KY acc [] = promo h.ro ((h.young.drop j).filter fun o : Ob => decide (o.handle ∈ LV)) OC ST ∧ OC.length ≤ 1000 + j ∧ (usedN OC : Int) ≤ h.ro ∧ ST.length ≤ j ∧
   st = ⟨[(0, .ptr 0 [.d]), (5, .sub 1 [] 0 LV.length false), (6, avInt ((h.young.length : Int) + h.old.length)), (7, .sub 2 [] 0 OC.length false), (9, .sub 3 [] 0 ST.length false), (10, avInt j)],
    [eHx (.sl true () 3 (dObsJ j h.young)) (.sl true () 3 (dObsJ h.old.length h.old)) { h with fins := F, queue := Q }, .sl true () 1 (dInts LV), .sl true () 3 (dObs true OC), .sl true () 3 (dObs true ST)], [(0, [.d])], []⟩)
   ⟨h.young.length, 0, acc, [], by omega, by rw [List.drop_zero, hKY], by omega, hKOr, by simp, by simp [eHx, dObsJ_zero]⟩ ?_
  rintro m st ⟨j, OC, ST, hj, hpr, hOl, hOu, hSl, rfl⟩
  repeat first|refine n1 ?_|((first|refine rg 11 [0, 5, 6, 7, 9, 10] [0, 5, 6, 7, 9, 10, 66] [] ?_|refine nc ?_);simp (maxSteps := 1000000) [hF, eHx])
  refine ⟨fun hlt => ?_, fun hge => ?_⟩
  ·have hn0 := dObsJ_nth hlt
   have hn1 := dObsJ_nth1 hlt
   have hst := dObsJ_step hlt
   have hw : IntKind.i64.wrap ((j : Int) + 1) = (j + 1 : Nat) := by rw [IntWalk.i64_in _ (by omega)]; rfl
   obtain ⟨ha0, ha1, ha2⟩ := hYm _ (List.getElem_mem hlt)
   have hdr : h.young.drop j = h.young[j] :: h.young.drop (j + 1) := List.drop_eq_getElem_cons hlt
   have hwa : IntKind.i64.wrap (h.young[j].age + 1) = h.young[j].age + 1 := IntWalk.i64_in _ (by omega)
   have hwu : IntKind.i64.wrap ((usedN OC : Int) + h.young[j].slots.length) = (usedN OC : Int) + h.young[j].slots.length := IntWalk.i64_in _ (by omega)
   have hsm := dInts_mid h.young[j].slots
   have hOC : OC.length ≤ 100000 := by omega
   have hUC : usedN OC ≤ 100000 := by omega
   rw [hdr] at hpr
   refine ghostL 0 [.d, .f 3, .i j, .f 2] ?_;simp (maxSteps := 1000000) [hF, St.lift, AV.lift, liftPl, stripP, nodeAV, isNode, eHx, hn0, hlt, hst]
   repeat first|refine n1 ?_|refine n2 ?_|refine n3 ?_|((first|refine rg 13 [0, 5, 6, 7, 9, 10] [0, 5, 6, 7, 9, 10, 11] [] ?_|refine rg 14 [0, 5, 6, 7, 9, 10, 11] [0, 5, 6, 7, 9, 10, 11, 80] [] ?_);simp (maxSteps := 1000000) [hF, eHx, hn1, hlt, hsm])
   by_cases hin : h.young[j].handle ∈ LV
   ·have hh := hasN_iff.2 hin
    rw [List.filter_cons_of_pos (by simp [hin])] at hpr
    refine (ehas_c false LV h.young[j].handle (by omega)).go [(1, [])] (by simp (maxSteps := 1000000) [hF, hh]) ?_;rintro av X κ ⟨rfl, rfl, rfl⟩;simp (maxSteps := 1000000) [hF, hh]
    repeat first|refine n1 ?_|refine n2 ?_|((first|refine rg 15 [0, 5, 6, 7, 9, 10, 11] [0, 5, 6, 7, 9, 10, 11] [] ?_|refine nc ?_);simp (maxSteps := 1000000) [hF, eHx, hn1, hlt, hwa])
    by_cases h2 : 2 ≤ h.young[j].age + 1
    ·by_cases hr : (usedN OC : Int) + h.young[j].slots.length ≤ h.ro
     ·rw [promo, if_pos ⟨h2, hr⟩] at hpr
      have hp := dObs_push true OC h.young[j].handle (h.young[j].age + 1) h.young[j].slots
      have hm1 := dObs_mid1 true OC ⟨h.young[j].handle, h.young[j].age + 1, h.young[j].slots⟩
      have c1 : (OC.length + 1) * 40 ≤ 140737488355328 := by omega
      have c2 : OC.length ≤ 9223372036854775806 := by omega
      repeat first|((refine dr 16 0 [0, 5, 6, 7, 9, 10, 11] [0, 5, 6, 7, 9, 10, 11, 100] [(3, 88)] [⟨0, 2048, 38685626227668133590597632, 5⟩, ⟨1, 38685626227668133590597632, 77371252455336267181195264, 6⟩, ⟨2, 77371252455336267181195264, 154742504910672534362390528, 5⟩, ⟨4, 154742504910672534362390528, 309485009821345068724781056, 5⟩, ⟨8, 309485009821345068724781184, 618970019642690137449562112, 5⟩, ⟨24, 928455029464035206174343168, 1237940039285380274899124224, 0⟩, ⟨8, 309485009821345068724783104, 2475880078570760549798248448, 5⟩, ⟨72, 2785365088392105618523029504, 4951760157141521099596496896, 6⟩, ⟨136, 5261245166962866168321277952, 9903520314283042199192993792, 5⟩, ⟨296, 11450945363389767542816899072, 19807040628566084398385987584, 5⟩, ⟨8, 309485009821345068724781057, 39614081257132168796771975168, 5⟩, ⟨1032, 39923566266953513865496756224, 79228162514264337593543950336, 5⟩, ⟨2056, 79537647524085682662268731392, 158456325028528675187087900672, 5⟩, ⟨4104, 158765810038350020255812681728, 316912650057057350374175801344, 6⟩, ⟨8712, 337029175695444779841286569984, 633825300114114700748351602688, 5⟩, ⟨16392, 634134785123936045817076383744, 1267650600228229401496703205376, 5⟩] (.take 0 (.take 1 (.take 2 (.take 3 (.take 4 (.take 6 (.take 10 (.take 11 (.take 12 (.fork (.alt 5 (.take 7 (.take 8 (.take 9 (.take 13 (.take 14 (.take 15 (.done))))))) (.alt 7 (.take 8 (.fork (.alt 5 (.take 9 (.take 13 (.take 14 (.take 15 (.done))))) (.alt 13 (.fork (.alt 5 (.take 9 (.take 14 (.take 15 (.done)))) (.nil))) (.nil))))) (.alt 13 (.fork (.alt 5 (.take 7 (.take 8 (.take 9 (.take 14 (.take 15 (.done)))))) (.alt 7 (.take 8 (.fork (.alt 5 (.take 9 (.take 14 (.take 15 (.done)))) (.nil)))) (.nil)))) (.nil)))))))))))))) (.run [0, 1, 2, 3, 4, 6, 10, 11, 12] (.both (.run [5, 7, 8, 9, 13, 14, 15] (.done)) (.both (.run [7, 8] (.both (.run [5, 9, 13, 14, 15] (.done)) (.run [13, 5, 9, 14, 15] (.done)))) (.run [13] (.both (.run [5, 7, 8, 9, 14, 15] (.done)) (.run [7, 8, 5, 9, 14, 15] (.done))))))) ?_;simp only [drs]);simp (maxSteps := 1000000) [hF, h2, hwa])
      apply merged
      ·intro key
       (repeat' with_reducible refine And.intro ?_ ?_)
       all_goals (refine (esize_c OC false hOC hUC).go [(2, [])] (by simp (maxSteps := 1000000) [hF, hwu, hr]) ?_;rintro av X κ ⟨rfl, rfl, rfl⟩;simp (maxSteps := 1000000) [hF, hwu, hr])
       (repeat' with_reducible refine And.intro ?_ ?_)
       all_goals (refine VS.pick [0, 5, 6, 7, 9, 10, 11, 100] [0, 1, 2, 3, 5] (by simp [hF]) ?_;simp [hF])
       all_goals exact key ()
      refine ghostL 4 [.d, .f 2] ?_;simp (maxSteps := 1000000) [hF, St.lift, AV.lift, liftPl, stripP, nodeAV, isNode]
      repeat first|refine n4 ?_|refine n5 ?_|((first|refine rg 17 [0, 5, 6, 7, 9, 10, 11] [0, 5, 6, 7, 9, 10] [] ?_|refine nc ?_);simp (maxSteps := 1000000) [hF, hp, hm1, hsm, c1, c2])
      refine VS.widen [(0, [.d])] (by simp [covers, mpre]) ?_
      repeat first|refine n4 ?_|refine n6 ?_|(refine rg 12 [0, 5, 6, 7, 9, 10] [0, 5, 6, 7, 9, 10] [] ?_;simp (maxSteps := 1000000) [hF, hw])
      refine nextK.of [0, 5, 6, 7, 9, 10] [0, 1, 2, 3] (m - 1) (by omega) (by simp [hF]) ?_
      exact ⟨j + 1, _, ST, by omega, hpr, by simp; omega, by rw [usedN_app, usedN_one]; simp only []; omega, by omega, by simp [eHx]⟩
     ·rw [promo, if_neg (fun e => hr e.2)] at hpr
      have hp := dObs_push true ST h.young[j].handle (h.young[j].age + 1) h.young[j].slots
      have hm1 := dObs_mid1 true ST ⟨h.young[j].handle, h.young[j].age + 1, h.young[j].slots⟩
      have c1 : (ST.length + 1) * 40 ≤ 140737488355328 := by omega
      have c2 : ST.length ≤ 9223372036854775806 := by omega
      repeat first|((refine dr 16 0 [0, 5, 6, 7, 9, 10, 11] [0, 5, 6, 7, 9, 10, 11, 100] [(3, 88)] [⟨0, 2048, 38685626227668133590597632, 5⟩, ⟨1, 38685626227668133590597632, 77371252455336267181195264, 6⟩, ⟨2, 77371252455336267181195264, 154742504910672534362390528, 5⟩, ⟨4, 154742504910672534362390528, 309485009821345068724781056, 5⟩, ⟨8, 309485009821345068724781184, 618970019642690137449562112, 5⟩, ⟨24, 928455029464035206174343168, 1237940039285380274899124224, 0⟩, ⟨8, 309485009821345068724783104, 2475880078570760549798248448, 5⟩, ⟨72, 2785365088392105618523029504, 4951760157141521099596496896, 6⟩, ⟨136, 5261245166962866168321277952, 9903520314283042199192993792, 5⟩, ⟨296, 11450945363389767542816899072, 19807040628566084398385987584, 5⟩, ⟨8, 309485009821345068724781057, 39614081257132168796771975168, 5⟩, ⟨1032, 39923566266953513865496756224, 79228162514264337593543950336, 5⟩, ⟨2056, 79537647524085682662268731392, 158456325028528675187087900672, 5⟩, ⟨4104, 158765810038350020255812681728, 316912650057057350374175801344, 6⟩, ⟨8712, 337029175695444779841286569984, 633825300114114700748351602688, 5⟩, ⟨16392, 634134785123936045817076383744, 1267650600228229401496703205376, 5⟩] (.take 0 (.take 1 (.take 2 (.take 3 (.take 4 (.take 6 (.take 10 (.take 11 (.take 12 (.fork (.alt 5 (.take 7 (.take 8 (.take 9 (.take 13 (.take 14 (.take 15 (.done))))))) (.alt 7 (.take 8 (.fork (.alt 5 (.take 9 (.take 13 (.take 14 (.take 15 (.done))))) (.alt 13 (.fork (.alt 5 (.take 9 (.take 14 (.take 15 (.done)))) (.nil))) (.nil))))) (.alt 13 (.fork (.alt 5 (.take 7 (.take 8 (.take 9 (.take 14 (.take 15 (.done)))))) (.alt 7 (.take 8 (.fork (.alt 5 (.take 9 (.take 14 (.take 15 (.done)))) (.nil)))) (.nil)))) (.nil)))))))))))))) (.run [0, 1, 2, 3, 4, 6, 10, 11, 12] (.both (.run [5, 7, 8, 9, 13, 14, 15] (.done)) (.both (.run [7, 8] (.both (.run [5, 9, 13, 14, 15] (.done)) (.run [13, 5, 9, 14, 15] (.done)))) (.run [13] (.both (.run [5, 7, 8, 9, 14, 15] (.done)) (.run [7, 8, 5, 9, 14, 15] (.done))))))) ?_;simp only [drs]);simp (maxSteps := 1000000) [hF, h2, hwa])
      apply merged
      ·intro key
       (repeat' with_reducible refine And.intro ?_ ?_)
       all_goals (refine (esize_c OC false hOC hUC).go [(2, [])] (by simp (maxSteps := 1000000) [hF, hwu, hr]) ?_;rintro av X κ ⟨rfl, rfl, rfl⟩;simp (maxSteps := 1000000) [hF, hwu, hr])
       (repeat' with_reducible refine And.intro ?_ ?_)
       all_goals (refine VS.pick [0, 5, 6, 7, 9, 10, 11, 100] [0, 1, 2, 3, 5] (by simp [hF]) ?_;simp [hF])
       all_goals exact key ()
      refine ghostL 4 [.d, .f 2] ?_;simp (maxSteps := 1000000) [hF, St.lift, AV.lift, liftPl, stripP, nodeAV, isNode]
      repeat first|refine n4 ?_|refine n5 ?_|((first|refine rg 18 [0, 5, 6, 7, 9, 10, 11] [0, 5, 6, 7, 9, 10] [] ?_|refine nc ?_);simp (maxSteps := 1000000) [hF, hp, hm1, hsm, c1, c2])
      refine VS.widen [(0, [.d])] (by simp [covers, mpre]) ?_
      repeat first|refine n4 ?_|refine n6 ?_|(refine rg 12 [0, 5, 6, 7, 9, 10] [0, 5, 6, 7, 9, 10] [] ?_;simp (maxSteps := 1000000) [hF, hw])
      refine nextK.of [0, 5, 6, 7, 9, 10] [0, 1, 2, 3] (m - 1) (by omega) (by simp [hF]) ?_
      exact ⟨j + 1, OC, _, by omega, hpr, by omega, hOu, by simp; omega, by simp [eHx]⟩
    ·rw [promo, if_neg (fun e => h2 e.1)] at hpr
     have hp := dObs_push true ST h.young[j].handle (h.young[j].age + 1) h.young[j].slots
     have hm1 := dObs_mid1 true ST ⟨h.young[j].handle, h.young[j].age + 1, h.young[j].slots⟩
     have c1 : (ST.length + 1) * 40 ≤ 140737488355328 := by omega
     have c2 : ST.length ≤ 9223372036854775806 := by omega
     repeat first|((first|(refine dr 16 0 [0, 5, 6, 7, 9, 10, 11] [0, 5, 6, 7, 9, 10, 11, 100] [(3, 88)] [⟨0, 2048, 38685626227668133590597632, 5⟩, ⟨1, 38685626227668133590597632, 77371252455336267181195264, 6⟩, ⟨2, 77371252455336267181195264, 154742504910672534362390528, 5⟩, ⟨4, 154742504910672534362390528, 309485009821345068724781056, 5⟩, ⟨8, 309485009821345068724781184, 618970019642690137449562112, 5⟩, ⟨24, 928455029464035206174343168, 1237940039285380274899124224, 0⟩, ⟨8, 309485009821345068724783104, 2475880078570760549798248448, 5⟩, ⟨72, 2785365088392105618523029504, 4951760157141521099596496896, 6⟩, ⟨136, 5261245166962866168321277952, 9903520314283042199192993792, 5⟩, ⟨296, 11450945363389767542816899072, 19807040628566084398385987584, 5⟩, ⟨8, 309485009821345068724781057, 39614081257132168796771975168, 5⟩, ⟨1032, 39923566266953513865496756224, 79228162514264337593543950336, 5⟩, ⟨2056, 79537647524085682662268731392, 158456325028528675187087900672, 5⟩, ⟨4104, 158765810038350020255812681728, 316912650057057350374175801344, 6⟩, ⟨8712, 337029175695444779841286569984, 633825300114114700748351602688, 5⟩, ⟨16392, 634134785123936045817076383744, 1267650600228229401496703205376, 5⟩] (.take 0 (.take 1 (.take 2 (.take 3 (.take 4 (.take 6 (.take 10 (.take 11 (.take 12 (.fork (.alt 5 (.take 7 (.take 8 (.take 9 (.take 13 (.take 14 (.take 15 (.done))))))) (.alt 7 (.take 8 (.fork (.alt 5 (.take 9 (.take 13 (.take 14 (.take 15 (.done))))) (.alt 13 (.fork (.alt 5 (.take 9 (.take 14 (.take 15 (.done)))) (.nil))) (.nil))))) (.alt 13 (.fork (.alt 5 (.take 7 (.take 8 (.take 9 (.take 14 (.take 15 (.done)))))) (.alt 7 (.take 8 (.fork (.alt 5 (.take 9 (.take 14 (.take 15 (.done)))) (.nil)))) (.nil)))) (.nil)))))))))))))) (.run [0, 1, 2, 3, 4, 6, 10, 11, 12] (.both (.run [5, 7, 8, 9, 13, 14, 15] (.done)) (.both (.run [7, 8] (.both (.run [5, 9, 13, 14, 15] (.done)) (.run [13, 5, 9, 14, 15] (.done)))) (.run [13] (.both (.run [5, 7, 8, 9, 14, 15] (.done)) (.run [7, 8, 5, 9, 14, 15] (.done))))))) ?_;simp only [drs])|refine nc ?_);simp (maxSteps := 1000000) [hF, h2])
     refine ghostL 5 [.d, .f 2] ?_;simp (maxSteps := 1000000) [hF, St.lift, AV.lift, liftPl, stripP, nodeAV, isNode]
     repeat first|refine n4 ?_|refine n5 ?_|(refine rg 18 [0, 5, 6, 7, 9, 10, 11] [0, 5, 6, 7, 9, 10] [] ?_;simp (maxSteps := 1000000) [hF, hp, hm1, hsm, c1, c2])
     refine VS.widen [(0, [.d])] (by simp [covers, mpre]) ?_
     repeat first|refine n4 ?_|refine n6 ?_|(refine rg 12 [0, 5, 6, 7, 9, 10] [0, 5, 6, 7, 9, 10] [] ?_;simp (maxSteps := 1000000) [hF, hw])
     refine nextK.of [0, 5, 6, 7, 9, 10] [0, 1, 2, 3] (m - 1) (by omega) (by simp [hF]) ?_
     exact ⟨j + 1, OC, _, by omega, hpr, by omega, hOu, by simp; omega, by simp [eHx]⟩
   ·have hh := hasN_no hin
    rw [List.filter_cons_of_neg (by simp [hin])] at hpr
    refine (ehas_c false LV h.young[j].handle (by omega)).go [(1, [])] (by simp (maxSteps := 1000000) [hF, hh]) ?_;rintro av X κ ⟨rfl, rfl, rfl⟩;simp (maxSteps := 1000000) [hF, hh]
    refine VS.widen [(0, [.d])] (by simp [covers, mpre]) ?_
    repeat first|refine n4 ?_|refine n6 ?_|refine n7 ?_|refine n8 ?_|((first|refine rg 12 [0, 5, 6, 7, 9, 10] [0, 5, 6, 7, 9, 10] [] ?_|refine nc ?_);simp (maxSteps := 1000000) [hF, hw])
    refine nextK.of [0, 5, 6, 7, 9, 10] [0, 1, 2, 3] (m - 1) (by omega) (by simp [hF]) ?_
    exact ⟨j + 1, OC, ST, by omega, hpr, by omega, hOu, by omega, by simp [eHx]⟩
  ·have hdn : h.young.drop j = [] := List.drop_of_length_le (by omega)
   rw [hdn, List.filter_nil, promo] at hpr
   have hms := dObs_mid_all true ST
   have hmo := dObs_mid_all true OC
   have hOl2 : OC.length ≤ 2000 := by omega
   have hSl2 : ST.length ≤ 1000 := by omega
   have hpl := promo_len h.ro KY acc []
   rw [hpr] at hpl
   simp only [List.length_nil, Nat.add_zero] at hpl
   clear hOl hSl hj
   obtain ⟨f, hf⟩ : ∃ f : Int × Int → Int × Int, f = fun w => if ¬ w.1 = 0 ∧ (inL ST w.1 || inL OC w.1) = false then (0, w.2) else w := ⟨_, rfl⟩
   repeat first|refine n1 ?_|refine n7 ?_|((first|refine rg 19 [0, 6, 7, 9] [0, 6, 7, 9] [] ?_|refine rg 20 [0, 6, 7, 9] [0, 6, 7, 9] [] ?_);simp (maxSteps := 1000000) [hF, eHx, hms, hmo])
   refine VS.widen [(0, [.d])] (by simp [covers, mpre]) ?_
   refine VS.pick [0, 6, 7, 9] [0] (by simp [hF]) ?_;simp [hF]
   repeat first|refine n3 ?_|(refine rg 21 [0, 6, 7, 9] [0, 6, 7, 9, 12] [] ?_;simp (maxSteps := 1000000) [hF])
   refine VS.rounds (fun m st => ∃ (i : Nat) (W : List (Int × Int)), i + m = h.weak.length ∧ W = upt f h.weak i ∧ st = ⟨[(0, .ptr 0 [.d]), (6, avInt ((h.young.length : Int) + h.old.length)), (7, .cut OC.length), (9, .cut ST.length), (12, avInt i)], [eHp { h with young := ST, old := OC, fins := F, queue := Q, weak := W }], [(0, [.d])], []⟩)
    ⟨h.weak.length, 0, h.weak, by omega, (upt_zero _ _).symm, by simp [eHp, eHb]⟩ ?_
   rintro m st ⟨i, W, hi, hW, rfl⟩
   have hWl : W.length = h.weak.length := by rw [hW]; simp
   repeat first|refine n1 ?_|((first|refine rg 22 [0, 6, 7, 9, 12] [0, 6, 7, 9, 12, 123] [] ?_|refine nc ?_);simp (maxSteps := 1000000) [hF, eHp, eHb])
   refine ⟨fun hlt => ?_, fun hge => ?_⟩
   ·have hlW : i < W.length := by omega
    have hlw : i < h.weak.length := by omega
    have hat : W[i] = h.weak[i] := by subst hW; exact upt_at hlw
    have hn := dEns_nth hlW
    rw [hat] at hn
    have hw : IntKind.i64.wrap ((i : Int) + 1) = (i + 1 : Nat) := by rw [IntWalk.i64_in _ (by omega)]; rfl
    have hs2 := dEns_set W i 0 h.weak[i].2
    by_cases he : h.weak[i].1 = 0
    ·have hst : W = upt f h.weak (i + 1) := by rw [upt_skip hlw (by rw [hf]; exact if_neg (fun e => e.1 he)), hW]
     repeat first|refine n1 ?_|refine n2 ?_|refine n3 ?_|refine n4 ?_|refine n5 ?_|refine n6 ?_|((first|refine rg 23 [0, 6, 7, 9, 12] [0, 6, 7, 9, 12] [] ?_|refine rg 24 [0, 6, 7, 9, 12] [0, 6, 7, 9, 12, 147] [(9, 135)] ?_|refine nc ?_);simp (maxSteps := 1000000) [hF, eHp, eHb, hn, hlW, he, hw])
     refine nextK.of [0, 6, 7, 9, 12] [0] (m - 1) (by omega) (by simp [hF]) ?_
     exact ⟨i + 1, W, by omega, hst, by simp [eHp, eHb]⟩
    ·repeat first|refine n1 ?_|refine n2 ?_|refine n3 ?_|(refine rg 24 [0, 6, 7, 9, 12] [0, 6, 7, 9, 12, 147] [(9, 135)] ?_;simp (maxSteps := 1000000) [hF, eHp, eHb, hn, hlW, he])
     cases ht : (inL ST h.weak[i].1 || inL OC h.weak[i].1) with
     | true =>
      have ht' : there { h with young := ST, old := OC, fins := F, queue := Q, weak := W } h.weak[i].1 = true := ht
      have hst : W = upt f h.weak (i + 1) := by rw [upt_skip hlw (by rw [hf]; exact if_neg (fun e => by rw [ht] at e; exact absurd e.2 (by simp))), hW]
      refine (ethere_lc { h with young := ST, old := OC, fins := F, queue := Q, weak := W } hSl2 hOl2 h.weak[i].1).go [(0, [])] (by simp (maxSteps := 1000000) [hF, eHp, eHb, ht']) ?_;rintro av X κ ⟨rfl, rfl, rfl⟩;simp (maxSteps := 1000000) [hF, eHp, eHb, ht']
      repeat first|refine n2 ?_|refine n4 ?_|refine n5 ?_|refine n6 ?_|((first|refine rg 23 [0, 6, 7, 9, 12] [0, 6, 7, 9, 12] [] ?_|refine nc ?_);simp (maxSteps := 1000000) [hF, hw])
      refine nextK.of [0, 6, 7, 9, 12] [0] (m - 1) (by omega) (by simp [hF]) ?_
      exact ⟨i + 1, W, by omega, hst, by simp [eHp, eHb]⟩
     | false =>
      have ht' : there { h with young := ST, old := OC, fins := F, queue := Q, weak := W } h.weak[i].1 = false := ht
      have hst : W.set i (0, h.weak[i].2) = upt f h.weak (i + 1) := by
       have hfw : f h.weak[i] = (0, h.weak[i].2) := by rw [hf]; exact if_pos ⟨he, ht⟩
       rw [← upt_set hlw, hfw, hW]
      refine (ethere_lc { h with young := ST, old := OC, fins := F, queue := Q, weak := W } hSl2 hOl2 h.weak[i].1).go [(0, [])] (by simp (maxSteps := 1000000) [hF, eHp, eHb, ht']) ?_;rintro av X κ ⟨rfl, rfl, rfl⟩;simp (maxSteps := 1000000) [hF, eHp, eHb, ht']
      repeat first|refine n4 ?_|refine n5 ?_|((first|refine rg 25 [0, 6, 7, 9, 12] [0, 6, 7, 9, 12] [] ?_|refine nc ?_);simp (maxSteps := 1000000) [hF, eHp, eHb, hn, hlW, hs2])
      refine VS.widen [(0, [.d])] (by simp [covers, mpre]) ?_
      repeat first|refine n4 ?_|refine n6 ?_|(refine rg 23 [0, 6, 7, 9, 12] [0, 6, 7, 9, 12] [] ?_;simp (maxSteps := 1000000) [hF, hw])
      refine nextK.of [0, 6, 7, 9, 12] [0] (m - 1) (by omega) (by simp [hF]) ?_
      exact ⟨i + 1, _, by omega, hst, by simp [eHp, eHb]⟩
   ·have hWf : W = h.weak.map f := by rw [hW, upt_all _ (by omega)]
    have hw1 : IntKind.i64.wrap ((h.young.length : Int) + h.old.length - ST.length) = (h.young.length : Int) + h.old.length - ST.length := IntWalk.i64_in _ (by omega)
    have hw2 : IntKind.i64.wrap ((h.young.length : Int) + h.old.length - ST.length - OC.length) = (h.young.length : Int) + h.old.length - ST.length - OC.length := IntWalk.i64_in _ (by omega)
    have hlv : (fun x => (liveE h minor).contains x) = fun x => decide (x ∈ LV) := funext fun x => by rw [← hLV]; simp
    have hth : ∀ x, (inL ST x || inL OC x) = (inL h.old x && (minor || decide (x ∈ LV)) || inL h.young x && decide (x ∈ LV)) := fun x => by
     have := collect_there k minor (fun x => (firstE h minor).contains x) (fun x => decide (x ∈ LV)) x
     rw [there, collectBy, ← keepO_eq, ← hacc, keepYoung, ← hKY, hpr] at this
     exact this
    have hwm : h.weak.map (fun w => if goneB h minor (fun x => decide (x ∈ LV)) w.1 = true then (0, w.2) else w) = W := by
     rw [hWf]
     refine List.map_congr_left fun w hw => ?_
     have hg : goneB h minor (fun x => decide (x ∈ LV)) w.1 = (there h w.1 && !(inL ST w.1 || inL OC w.1)) := by rw [goneB, keep_in, keepY_in, hth]
     rw [hg, hf]
     by_cases he : w.1 = 0
     ·have h0 : there h w.1 = false := by
       cases e : there h w.1 with
       | false => rfl
       | true => have := k.pos e; omega
      rw [h0, Bool.false_and, if_neg (by simp)]; exact (if_neg (fun e => e.1 he)).symm
     ·have h1 := (k.weak w hw).resolve_left he
      cases ht : (inL ST w.1 || inL OC w.1) <;> simp [h1, he, ht]
    have hx : (collectE h minor).1 = { h with young := ST, old := OC, fins := F, queue := Q, weak := W } := by
     rw [collectE, hlv, collectBy, ← keepO_eq, ← hacc, keepYoung, ← hKY, hpr, ← hFf, ← hQ, hwm]
    have hy : (collectE h minor).2 = (h.young.length : Int) + h.old.length - ST.length - OC.length := by
     rw [collectE, hlv, collectBy, ← keepO_eq, ← hacc, keepYoung, ← hKY]
     simp only []
     omega
    repeat first|refine n1 ?_|refine n7 ?_|(refine rg 26 [6, 7, 9] [4] [] ?_;simp (maxSteps := 1000000) [hF, hw1, hw2])
    (try refine nr ?_);(repeat first|refine nb_ ?_|refine nl_ ?_);refine endK.o [4] [0] [(0, [.d])] ?_;simp [hF, retK, covers, mpre, hx, hy, eHp, eHb]
/- (*cabochon/cabochonref27.Heap).Make -/
theorem emake_ok (h : Hp) (k : Ok h) (n : Int) (hnx : h.next ≤ 1000000) : Meets Try.prog 61 [eHp h] (.cons (.ptr 0 [.d]) (.cons (avInt n) .nil))
  fun av X κ => av = two (makeOf h n).2 ∧ X = [eHp (makeOf h n).1] ∧ κ = [(0, [.d])] := by
 have hn0 : 0 < h.next := by have := k.next; omega
 obtain ⟨b1, b2, b3, b4⟩ := k.lens
 refine fb Try.func61 Try.ntmps61 [.tmp 4, .tmp 5] fun w0 I0 F0 hF => ?_
 repeat first|refine n1 ?_|((first|refine rg 0 [0, 1] [0, 1] [] ?_|refine rg 1 [0, 1] [0, 1, 15] [(2, 8), (6, 12)] ?_);simp (maxSteps := 1000000) [hF])
 by_cases h1 : n < 1
 ·have hc : makeOf h n = (h, 0, 1) := by simp [makeOf, h1]
  refine (no_c h).go [(0, [])] (by simp (maxSteps := 1000000) [hF, h1, eHp]) ?_;rintro av X κ ⟨rfl, rfl, rfl⟩;simp (maxSteps := 1000000) [hF, h1, eHp]
  repeat first|refine n1 ?_|((first|refine rg 2 [] [4, 5] [] ?_|refine nc ?_);simp (maxSteps := 1000000) [hF])
  refine VS.widen [(0, [.d])] (by simp [covers, mpre]) ?_
  (try refine nr ?_);(repeat first|refine nb_ ?_|refine nl_ ?_);refine endK.o [4, 5] [0] [(0, [.d])] ?_;simp [hF, retK, covers, mpre, hc, eHp]
 by_cases h2 : 8 < n
 ·have hc : makeOf h n = (h, 0, 1) := by simp [makeOf, h2]
  refine (no_c h).go [(0, [])] (by simp (maxSteps := 1000000) [hF, h1, h2, eHp]) ?_;rintro av X κ ⟨rfl, rfl, rfl⟩;simp (maxSteps := 1000000) [hF, h1, h2, eHp]
  repeat first|refine n1 ?_|((first|refine rg 2 [] [4, 5] [] ?_|refine nc ?_);simp (maxSteps := 1000000) [hF])
  refine VS.widen [(0, [.d])] (by simp [covers, mpre]) ?_
  (try refine nr ?_);(repeat first|refine nb_ ?_|refine nl_ ?_);refine endK.o [4, 5] [0] [(0, [.d])] ?_;simp [hF, retK, covers, mpre, hc, eHp]
 obtain ⟨m, rfl⟩ : ∃ m : Nat, n = m := ⟨n.toNat, by omega⟩
 have hw1 : IntKind.i64.wrap ((usedN h.young : Int) + m) = (usedN h.young : Int) + m := IntWalk.i64_in _ (by omega)
 refine (no_c h).go [(0, [])] (by simp (maxSteps := 1000000) [hF, h1, h2, eHp]) ?_;rintro av X κ ⟨rfl, rfl, rfl⟩;simp (maxSteps := 1000000) [hF, h1, h2, eHp]
 by_cases h3 : h.ry < (usedN h.young : Int) + m
 ·have hc : makeOf h m = (h, 0, 9) := by rw [makeOf, if_neg (by omega), if_pos h3]
  repeat first|refine n1 ?_|refine n2 ?_|((first|(refine dr 3 0 [0, 1] [0, 1, 27] [] [⟨0, 1, 65536, 5⟩, ⟨1, 65536, 131072, 5⟩, ⟨2, 131072, 262144, 5⟩, ⟨4, 262144, 524288, 6⟩, ⟨8, 524288, 1048576, 0⟩, ⟨0, 2, 2097152, 5⟩, ⟨48, 3145728, 4194304, 5⟩, ⟨0, 1, 8388608, 5⟩, ⟨128, 8388608, 16777216, 5⟩, ⟨256, 16777216, 33554432, 5⟩, ⟨512, 33554432, 67108864, 6⟩, ⟨1088, 71303168, 134217728, 5⟩] (.take 0 (.take 1 (.take 2 (.take 3 (.take 5 (.take 7 (.take 8 (.take 9 (.fork (.alt 4 (.take 6 (.take 10 (.take 11 (.done)))) (.alt 10 (.fork (.alt 4 (.take 6 (.take 11 (.done))) (.nil))) (.nil)))))))))))) (.run [0, 1, 2, 3, 5, 7, 8, 9] (.both (.run [4, 6, 10, 11] (.done)) (.run [10, 4, 6, 11] (.done)))) ?_;simp only [drs])|refine nc ?_);simp (maxSteps := 1000000) [hF, eHb])
  apply merged
  ·intro key
   (repeat' with_reducible refine And.intro ?_ ?_)
   all_goals (refine (esize_c h.young false (by omega) (by omega)).go [(0, [.d, .f 3])] (by simp (maxSteps := 1000000) [hF, hw1, h3]) ?_;rintro av X κ ⟨rfl, rfl, rfl⟩;simp (maxSteps := 1000000) [hF, hw1, h3])
   all_goals (refine VS.pick [0, 1, 27] [0] (by simp [hF]) ?_;simp [hF])
   all_goals exact key ()
  repeat first|refine n1 ?_|((first|refine rg 4 [] [4, 5] [] ?_|refine nc ?_);simp (maxSteps := 1000000) [hF, hw1, h3])
  refine VS.widen [(0, [.d])] (by simp [covers, mpre]) ?_
  (try refine nr ?_);(repeat first|refine nb_ ?_|refine nl_ ?_);refine endK.o [4, 5] [0] [(0, [.d])] ?_;simp [hF, retK, covers, mpre, hc, eHp, eHb]
 ·have hc : makeOf h m = ({ h with young := h.young ++ [⟨h.next, 0, List.replicate m 0⟩], next := h.next + 1 }, h.next, 0) := by rw [makeOf, if_neg (by omega), if_neg h3]; simp
  have hz : ∀ X q k, emptySub X k q m true = none := fun X q k => by
   obtain ⟨j, rfl⟩ : ∃ j, m = j + 1 := ⟨m - 1, by omega⟩
   rfl
  have hr : (sq (List.replicate m (.val (.int .i64 0))) : D) = dInts (List.replicate m 0) := by simp [dInts, dInt]
  have hm : (dInts (List.replicate m 0)).mid 0 m = dInts (List.replicate m 0) := by
   have := dInts_mid (List.replicate m 0)
   simpa using this
  have c1 : (m : Int) * 8 ≤ 140737488355328 := by omega
  have c2 : (m : Int) ≤ 9223372036854775807 := by omega
  have hp := dObs_push true h.young h.next 0 (List.replicate m 0)
  have hm2 := dObs_mid1 true h.young ⟨h.next, 0, List.replicate m 0⟩
  have c3 : (h.young.length + 1) * 40 ≤ 140737488355328 := by omega
  have c4 : h.young.length ≤ 9223372036854775806 := by omega
  have hw2 : IntKind.i64.wrap (h.next + 1) = h.next + 1 := IntWalk.i64_in _ (by omega)
  have hw3 : IntKind.i64.wrap h.next = h.next := IntWalk.i64_in _ (by omega)
  repeat first|refine n1 ?_|refine n2 ?_|((first|(refine dr 3 0 [0, 1] [0, 1, 27] [] [⟨0, 1, 65536, 5⟩, ⟨1, 65536, 131072, 5⟩, ⟨2, 131072, 262144, 5⟩, ⟨4, 262144, 524288, 6⟩, ⟨8, 524288, 1048576, 0⟩, ⟨0, 2, 2097152, 5⟩, ⟨48, 3145728, 4194304, 5⟩, ⟨0, 1, 8388608, 5⟩, ⟨128, 8388608, 16777216, 5⟩, ⟨256, 16777216, 33554432, 5⟩, ⟨512, 33554432, 67108864, 6⟩, ⟨1088, 71303168, 134217728, 5⟩] (.take 0 (.take 1 (.take 2 (.take 3 (.take 5 (.take 7 (.take 8 (.take 9 (.fork (.alt 4 (.take 6 (.take 10 (.take 11 (.done)))) (.alt 10 (.fork (.alt 4 (.take 6 (.take 11 (.done))) (.nil))) (.nil)))))))))))) (.run [0, 1, 2, 3, 5, 7, 8, 9] (.both (.run [4, 6, 10, 11] (.done)) (.run [10, 4, 6, 11] (.done)))) ?_;simp only [drs])|refine nc ?_);simp (maxSteps := 1000000) [hF, eHb])
  apply merged
  ·intro key
   (repeat' with_reducible refine And.intro ?_ ?_)
   all_goals (refine (esize_c h.young false (by omega) (by omega)).go [(0, [.d, .f 3])] (by simp (maxSteps := 1000000) [hF, hw1, h3]) ?_;rintro av X κ ⟨rfl, rfl, rfl⟩;simp (maxSteps := 1000000) [hF, hw1, h3])
   all_goals (refine VS.pick [0, 1, 27] [0] (by simp [hF]) ?_;simp [hF])
   all_goals exact key ()
  refine ghostL 0 [.d, .f 3] ?_;simp (maxSteps := 1000000) [hF, St.lift, AV.lift, liftPl, stripP, nodeAV, isNode]
  repeat first|refine n1 ?_|refine n2 ?_|((first|(refine dr 5 0 [0, 1] [0] [] [⟨0, 1, 268435456, 5⟩, ⟨0, 1, 536870912, 5⟩, ⟨2, 536870912, 1073741824, 5⟩, ⟨4, 1073741824, 2147483648, 5⟩, ⟨8, 2147483648, 4294967296, 6⟩, ⟨0, 1, 8589934592, 5⟩, ⟨32, 8589934592, 17179869184, 5⟩, ⟨64, 17179869184, 34359738368, 5⟩, ⟨128, 34359738368, 68719476736, 6⟩, ⟨0, 2, 137438953472, 5⟩, ⟨512, 137438953472, 274877906944, 4⟩, ⟨1280, 343597383680, 549755813888, 5⟩, ⟨2048, 549755813888, 1099511627776, 4⟩, ⟨4112, 1103806595072, 2199023255552, 0⟩, ⟨16383, 268435456, 4398046511104, 5⟩, ⟨32767, 4398046511104, 8796093022208, 5⟩, ⟨49151, 10995116277760, 0, 0⟩] (.take 0 (.take 1 (.take 2 (.take 3 (.take 4 (.take 5 (.take 6 (.take 7 (.take 8 (.take 9 (.fork (.alt 10 (.take 11 (.fork (.alt 12 (.fork (.alt 13 (.take 14 (.take 15 (.fork (.alt 16 (.done) (.nil))))) (.nil))) (.nil)))) (.nil))))))))))))) (.run [0, 1, 2, 3, 4, 5, 6, 7, 8, 9, 10, 11, 12, 13, 14, 15, 16] (.done)) ?_;simp only [drs])|refine nc ?_);simp (maxSteps := 1000000) [hF, hw1, h3, hz, hr, hm, c1, c2, hp, hm2, c3, c4])
  repeat first|refine n1 ?_|((first|refine rg 6 [0] [0] [] ?_|refine rg 7 [0] [4, 5] [] ?_);simp (maxSteps := 1000000) [hF, hw2, hw3])
  refine VS.widen [(0, [.d])] (by simp [covers, mpre]) ?_
  (try refine nr ?_);(repeat first|refine nb_ ?_|refine nl_ ?_);refine endK.o [4, 5] [0] [(0, [.d])] ?_;simp [hF, retK, covers, mpre, hc, eHp, eHb]

theorem slotErr_z {h : Hp} {x s z : Int} (hz : ¬ z < 0) (he : ¬ slotErr h x s 0 = 0) : slotErr h x s z = slotErr h x s 0 := by
 unfold slotErr at he ⊢
 by_cases h1 : x < 0 ∨ s < 0 ∨ 8 ≤ s
 ·have a1 : x < 0 ∨ s < 0 ∨ 8 ≤ s ∨ z < 0 := by omega
  have a2 : x < 0 ∨ s < 0 ∨ 8 ≤ s ∨ (0 : Int) < 0 := by omega
  rw [if_pos a1, if_pos a2]
 ·have a1 : ¬ (x < 0 ∨ s < 0 ∨ 8 ≤ s ∨ z < 0) := by omega
  have a2 : ¬ (x < 0 ∨ s < 0 ∨ 8 ≤ s ∨ (0 : Int) < 0) := by omega
  rw [if_neg a2] at he ⊢
  rw [if_neg a1]
  by_cases h2 : there h x = true ∧ (slotsOf h x).length ≤ s
  ·rw [if_pos h2, if_pos h2]
  ·rw [if_neg h2] at he ⊢
   rw [if_neg h2]
   by_cases h3 : there h x = false
   ·rw [if_pos (.inl h3), if_pos (.inl h3)]
   ·have a3 : ¬ (there h x = false ∨ (0 : Int) < 0 ∧ there h 0 = false) := by simp [h3]
    rw [if_neg a3] at he; exact absurd rfl he
theorem slotErr_e {h : Hp} {x s z : Int} (hz : ¬ z < 0) (he : slotErr h x s 0 = 0) : slotErr h x s z = if 0 < z ∧ there h z = false then 3 else 0 := by
 unfold slotErr at he ⊢
 by_cases h1 : x < 0 ∨ s < 0 ∨ 8 ≤ s
 ·have a2 : x < 0 ∨ s < 0 ∨ 8 ≤ s ∨ (0 : Int) < 0 := by omega
  rw [if_pos a2] at he; cases he
 ·have a1 : ¬ (x < 0 ∨ s < 0 ∨ 8 ≤ s ∨ z < 0) := by omega
  have a2 : ¬ (x < 0 ∨ s < 0 ∨ 8 ≤ s ∨ (0 : Int) < 0) := by omega
  rw [if_neg a2] at he
  rw [if_neg a1]
  by_cases h2 : there h x = true ∧ (slotsOf h x).length ≤ s
  ·rw [if_pos h2] at he; cases he
  ·rw [if_neg h2] at he ⊢
   by_cases h3 : there h x = false
   ·rw [if_pos (.inl h3)] at he; cases he
   ·by_cases h4 : 0 < z ∧ there h z = false
    ·rw [if_pos h4, if_pos (.inr h4)]
    ·rw [if_neg h4, if_neg (fun e => e.elim h3 h4)]

/- (*cabochon/cabochonref27.Heap).slots -/
theorem eslots_y (h : Hp) (k : Ok h) (x : Int) (i : Nat) (hi : i < h.young.length) (hix : ixO h.young x = i) : Meets Try.prog 83 [eHp h] (.cons (.ptr 0 [.d]) (.cons (avInt x) .nil))
  fun av X κ => av = .sub 0 [.d, .f 3, .i i, .f 2] 0 h.young[i].slots.length false ∧ X = [eHp h] ∧ κ = [] := by
 obtain ⟨b1, b2, b3, b4⟩ := k.lens
 have hn := dObs_nth (o := true) hi
 refine fb Try.func83 Try.ntmps83 [.tmp 4] fun w0 I0 F0 hF => ?_
 repeat first|refine n1 ?_|((first|refine rg 0 [0, 1] [0, 1] [] ?_|refine rg 1 [0, 1] [0, 1, 5] [] ?_);simp (maxSteps := 1000000) [hF, eHp, eHb])
 refine (eindex_c h.young x false (by omega)).go [(0, [.d, .f 3])] (by simp (maxSteps := 1000000) [hF, hix]) ?_;rintro av X κ ⟨rfl, rfl, rfl⟩;simp (maxSteps := 1000000) [hF, hix]
 repeat first|refine n1 ?_|((first|refine rg 2 [0, 1, 5] [0, 1, 5, 13] [] ?_|refine rg 3 [0, 5] [4] [] ?_|refine nc ?_);simp (maxSteps := 1000000) [hF, hn, hi])
 (try refine nr ?_);(repeat first|refine nb_ ?_|refine nl_ ?_);refine endK.o [4] [0] [] ?_;simp [hF, retK, covers, mpre, eHp, eHb]
theorem eslots_d (h : Hp) (k : Ok h) (x : Int) (hix0 : ixO h.young x = -1) (i : Nat) (hi : i < h.old.length) (hix : ixO h.old x = i) : Meets Try.prog 83 [eHp h] (.cons (.ptr 0 [.d]) (.cons (avInt x) .nil))
  fun av X κ => av = .sub 0 [.d, .f 4, .i i, .f 2] 0 h.old[i].slots.length false ∧ X = [eHp h] ∧ κ = [] := by
 obtain ⟨b1, b2, b3, b4⟩ := k.lens
 have hn := dObs_nth (o := true) hi
 refine fb Try.func83 Try.ntmps83 [.tmp 4] fun w0 I0 F0 hF => ?_
 repeat first|refine n1 ?_|((first|refine rg 0 [0, 1] [0, 1] [] ?_|refine rg 1 [0, 1] [0, 1, 5] [] ?_);simp (maxSteps := 1000000) [hF, eHp, eHb])
 refine (eindex_c h.young x false (by omega)).go [(0, [.d, .f 3])] (by simp (maxSteps := 1000000) [hF, hix0]) ?_;rintro av X κ ⟨rfl, rfl, rfl⟩;simp (maxSteps := 1000000) [hF, hix0]
 repeat first|refine n1 ?_|refine n2 ?_|((first|refine rg 2 [0, 1, 5] [0, 1, 5, 13] [] ?_|(refine dr 4 0 [0, 1] [4] [] [⟨0, 1, 4194304, 5⟩, ⟨1, 4194304, 8388608, 5⟩, ⟨2, 8388608, 16777216, 5⟩, ⟨4, 16777216, 33554432, 6⟩, ⟨0, 1, 67108864, 5⟩, ⟨16, 67108864, 134217728, 5⟩, ⟨32, 134217728, 268435456, 5⟩, ⟨64, 268435456, 536870912, 6⟩, ⟨0, 2, 1073741824, 5⟩, ⟨384, 1610612736, 2147483648, 0⟩, ⟨520, 2181038080, 4294967296, 5⟩, ⟨1024, 4294967296, 8589934592, 5⟩, ⟨2048, 8589934592, 17179869184, 6⟩, ⟨8191, 17179869184, 16, 5⟩] (.take 0 (.take 1 (.take 2 (.take 4 (.take 5 (.take 6 (.take 7 (.take 8 (.fork (.alt 3 (.fork (.alt 9 (.take 10 (.take 11 (.take 12 (.take 13 (.done))))) (.nil))) (.alt 9 (.take 3 (.take 10 (.take 11 (.take 12 (.take 13 (.done)))))) (.nil)))))))))))) (.run [0, 1, 2, 4, 5, 6, 7, 8] (.both (.run [3, 9, 10, 11, 12, 13] (.done)) (.run [9, 3, 10, 11, 12, 13] (.done)))) ?_;simp only [drs])|refine nc ?_);simp (maxSteps := 1000000) [hF])
 (repeat' with_reducible refine And.intro ?_ ?_)
 all_goals (refine (eindex_c h.old x false (by omega)).go [(0, [.d, .f 4])] (by simp (maxSteps := 1000000) [hF, hix, hn, hi]) ?_;rintro av X κ ⟨rfl, rfl, rfl⟩;simp (maxSteps := 1000000) [hF, hix, hn, hi])
 (repeat' with_reducible refine And.intro ?_ ?_)
 all_goals ((try refine nr ?_);(repeat first|refine nb_ ?_|refine nl_ ?_);refine endK.o [4] [0] [] ?_;simp [hF, retK, covers, mpre, eHp, eHb])

/- (*cabochon/cabochonref27.Heap).Set -/
theorem eset_ok (h : Hp) (k : Ok h) (x s z : Int) : Meets Try.prog 62 [eHp h] (.cons (.ptr 0 [.d]) (.cons (avInt x) (.cons (avInt s) (.cons (avInt z) .nil))))
  fun av X κ => av = avInt (setOf h x s z).2 ∧ X = [eHp (setOf h x s z).1] ∧ κ = [(0, [.d])] := by
 by_cases hz : z < 0
 ·have he : slotErr h x s z = 1 := by
   have a1 : x < 0 ∨ s < 0 ∨ 8 ≤ s ∨ z < 0 := by omega
   rw [slotErr, if_pos a1]
  have hc : setOf h x s z = (h, 1) := by simp [setOf, he]
  refine fb Try.func62 Try.ntmps62 [.tmp 8] fun w0 I0 F0 hF => ?_
  repeat first|refine n1 ?_|((first|refine rg 0 [0, 1, 2, 3] [0, 1, 2, 3] [] ?_|refine rg 1 [0, 1, 2, 3] [0, 1, 2, 3, 11] [] ?_|refine nc ?_);simp (maxSteps := 1000000) [hF, hz])
  refine VS.widen [(0, [.d])] (by simp [covers, mpre]) ?_
  repeat first|(refine rg 2 [] [8] [] ?_;simp (maxSteps := 1000000) [hF])
  (try refine nr ?_);(repeat first|refine nb_ ?_|refine nl_ ?_);refine endK.o [8] [0] [(0, [.d])] ?_;simp [hF, retK, covers, mpre, hc, eHp]
 refine fb Try.func62 Try.ntmps62 [.tmp 8] fun w0 I0 F0 hF => ?_
 repeat first|refine n1 ?_|refine n2 ?_|((first|refine rg 0 [0, 1, 2, 3] [0, 1, 2, 3] [] ?_|refine rg 1 [0, 1, 2, 3] [0, 1, 2, 3, 11] [] ?_|refine rg 3 [0, 1, 2, 3] [0, 1, 2, 3, 9] [] ?_|refine nc ?_);simp (maxSteps := 1000000) [hF, hz])
 by_cases h0 : slotErr h x s 0 = 0
 ·obtain ⟨t, rfl, ht, hth⟩ := slot_err0 h0
  have he := slotErr_e (x := x) (s := t) hz h0
  refine (eslot_c h k x t).go [(0, [])] (by simp (maxSteps := 1000000) [hF, h0, eHp]) ?_;rintro av X κ ⟨rfl, rfl, rfl⟩;simp (maxSteps := 1000000) [hF, h0, eHp]
  by_cases hz0 : z = 0
  ·subst hz0
   rw [if_neg (by omega)] at he
   repeat first|refine n1 ?_|refine n2 ?_|((first|refine rg 4 [0, 1, 2, 3, 9] [0, 1, 2, 3, 9, 17] [] ?_|refine rg 6 [0, 1, 2, 3] [0, 1, 2, 3, 26] [(2, 21)] ?_|refine rg 8 [0, 1, 2, 3] [] [] ?_|refine nc ?_);simp (maxSteps := 1000000) [hF])
   rcases there_or k hth with ⟨i, hi, hy, hix, hf, hso, hup⟩ | ⟨i, hi, hy, hix, hf, hso, hup⟩
   ·rw [hso] at ht
    have hn := dObs_nth (o := true) hi
    have hm := dInts_nth ht
    have hs2 := dObs_set true h.young i h.young[i].handle h.young[i].age (h.young[i].slots.set t 0)
    have hc : setOf h x t 0 = ({ h with young := h.young.set i ⟨h.young[i].handle, h.young[i].age, h.young[i].slots.set t 0⟩ }, 0) := by rw [setOf, if_neg (by simp [he]), hup]; simp
    refine (eslots_y h k x i hi hix).go [(0, [])] (by simp (maxSteps := 1000000) [hF, eHp, eHb, hn, hi, hm, ht, hs2]) ?_;rintro av X κ ⟨rfl, rfl, rfl⟩;simp (maxSteps := 1000000) [hF, eHp, eHb, hn, hi, hm, ht, hs2]
    repeat first|refine n1 ?_
    refine VS.widen [(0, [.d])] (by simp [covers, mpre]) ?_
    repeat first|(refine rg 9 [] [8] [] ?_;simp (maxSteps := 1000000) [hF])
    (try refine nr ?_);(repeat first|refine nb_ ?_|refine nl_ ?_);refine endK.o [8] [0] [(0, [.d])] ?_;simp [hF, retK, covers, mpre, hc, eHp, eHb]
   ·rw [hso] at ht
    have hn := dObs_nth (o := true) hi
    have hm := dInts_nth ht
    have hs2 := dObs_set true h.old i h.old[i].handle h.old[i].age (h.old[i].slots.set t 0)
    have hc : setOf h x t 0 = ({ h with old := h.old.set i ⟨h.old[i].handle, h.old[i].age, h.old[i].slots.set t 0⟩ }, 0) := by rw [setOf, if_neg (by simp [he]), hup]; simp
    refine (eslots_d h k x (ixO_none hy) i hi hix).go [(0, [])] (by simp (maxSteps := 1000000) [hF, eHp, eHb, hn, hi, hm, ht, hs2]) ?_;rintro av X κ ⟨rfl, rfl, rfl⟩;simp (maxSteps := 1000000) [hF, eHp, eHb, hn, hi, hm, ht, hs2]
    repeat first|refine n1 ?_
    refine VS.widen [(0, [.d])] (by simp [covers, mpre]) ?_
    repeat first|(refine rg 9 [] [8] [] ?_;simp (maxSteps := 1000000) [hF])
    (try refine nr ?_);(repeat first|refine nb_ ?_|refine nl_ ?_);refine endK.o [8] [0] [(0, [.d])] ?_;simp [hF, retK, covers, mpre, hc, eHp, eHb]
  ·have hzp : 0 < z := by omega
   repeat first|refine n1 ?_|refine n2 ?_|((first|refine rg 4 [0, 1, 2, 3, 9] [0, 1, 2, 3, 9, 17] [] ?_|refine rg 6 [0, 1, 2, 3] [0, 1, 2, 3, 26] [(2, 21)] ?_|refine nc ?_);simp (maxSteps := 1000000) [hF, hz0])
   cases hzt : there h z with
   | false =>
    rw [if_pos ⟨hzp, hzt⟩] at he
    have hc : setOf h x t z = (h, 3) := by simp [setOf, he]
    refine (ethere_c h k z).go [(0, [])] (by simp (maxSteps := 1000000) [hF, hzt, eHp]) ?_;rintro av X κ ⟨rfl, rfl, rfl⟩;simp (maxSteps := 1000000) [hF, hzt, eHp]
    repeat first|refine n1 ?_|(refine nc ?_;simp (maxSteps := 1000000) [hF])
    refine VS.widen [(0, [.d])] (by simp [covers, mpre]) ?_
    repeat first|(refine rg 7 [] [8] [] ?_;simp (maxSteps := 1000000) [hF])
    (try refine nr ?_);(repeat first|refine nb_ ?_|refine nl_ ?_);refine endK.o [8] [0] [(0, [.d])] ?_;simp [hF, retK, covers, mpre, hc, eHp]
   | true =>
    rw [if_neg (by simp [hzt])] at he
    refine (ethere_c h k z).go [(0, [])] (by simp (maxSteps := 1000000) [hF, hzt, eHp]) ?_;rintro av X κ ⟨rfl, rfl, rfl⟩;simp (maxSteps := 1000000) [hF, hzt, eHp]
    repeat first|refine n1 ?_|refine n2 ?_|((first|refine rg 8 [0, 1, 2, 3] [] [] ?_|refine nc ?_);simp (maxSteps := 1000000) [hF])
    rcases there_or k hth with ⟨i, hi, hy, hix, hf, hso, hup⟩ | ⟨i, hi, hy, hix, hf, hso, hup⟩
    ·rw [hso] at ht
     have hn := dObs_nth (o := true) hi
     have hm := dInts_nth ht
     have hs2 := dObs_set true h.young i h.young[i].handle h.young[i].age (h.young[i].slots.set t z)
     have hc : setOf h x t z = ({ h with young := h.young.set i ⟨h.young[i].handle, h.young[i].age, h.young[i].slots.set t z⟩ }, 0) := by rw [setOf, if_neg (by simp [he]), hup]; simp
     refine (eslots_y h k x i hi hix).go [(0, [])] (by simp (maxSteps := 1000000) [hF, eHp, eHb, hn, hi, hm, ht, hs2]) ?_;rintro av X κ ⟨rfl, rfl, rfl⟩;simp (maxSteps := 1000000) [hF, eHp, eHb, hn, hi, hm, ht, hs2]
     repeat first|refine n1 ?_
     refine VS.widen [(0, [.d])] (by simp [covers, mpre]) ?_
     repeat first|(refine rg 9 [] [8] [] ?_;simp (maxSteps := 1000000) [hF])
     (try refine nr ?_);(repeat first|refine nb_ ?_|refine nl_ ?_);refine endK.o [8] [0] [(0, [.d])] ?_;simp [hF, retK, covers, mpre, hc, eHp, eHb]
    ·rw [hso] at ht
     have hn := dObs_nth (o := true) hi
     have hm := dInts_nth ht
     have hs2 := dObs_set true h.old i h.old[i].handle h.old[i].age (h.old[i].slots.set t z)
     have hc : setOf h x t z = ({ h with old := h.old.set i ⟨h.old[i].handle, h.old[i].age, h.old[i].slots.set t z⟩ }, 0) := by rw [setOf, if_neg (by simp [he]), hup]; simp
     refine (eslots_d h k x (ixO_none hy) i hi hix).go [(0, [])] (by simp (maxSteps := 1000000) [hF, eHp, eHb, hn, hi, hm, ht, hs2]) ?_;rintro av X κ ⟨rfl, rfl, rfl⟩;simp (maxSteps := 1000000) [hF, eHp, eHb, hn, hi, hm, ht, hs2]
     repeat first|refine n1 ?_
     refine VS.widen [(0, [.d])] (by simp [covers, mpre]) ?_
     repeat first|(refine rg 9 [] [8] [] ?_;simp (maxSteps := 1000000) [hF])
     (try refine nr ?_);(repeat first|refine nb_ ?_|refine nl_ ?_);refine endK.o [8] [0] [(0, [.d])] ?_;simp [hF, retK, covers, mpre, hc, eHp, eHb]
 ·have he := slotErr_z (x := x) (s := s) hz h0
  have hc : setOf h x s z = (h, slotErr h x s 0) := by simp [setOf, he, h0]
  refine (eslot_c h k x s).go [(0, [])] (by simp (maxSteps := 1000000) [hF, h0, eHp]) ?_;rintro av X κ ⟨rfl, rfl, rfl⟩;simp (maxSteps := 1000000) [hF, h0, eHp]
  repeat first|refine n1 ?_|((first|refine rg 4 [0, 1, 2, 3, 9] [0, 1, 2, 3, 9, 17] [] ?_|refine rg 5 [9] [8] [] ?_|refine nc ?_);simp (maxSteps := 1000000) [hF, h0])
  refine VS.widen [(0, [.d])] (by simp [covers, mpre]) ?_
  (try refine nr ?_);(repeat first|refine nb_ ?_|refine nl_ ?_);refine endK.o [8] [0] [(0, [.d])] ?_;simp [hF, retK, covers, mpre, hc, eHp]

/- (*cabochon/cabochonref27.Heap).Roots -/
theorem eroots_ok (h : Hp) (k : Ok h) (l : List Int) (ex : Bool) (hll : l.length ≤ 100000000) : Meets Try.prog 63 [eHp h] (.cons (.ptr 0 [.d]) (.cons (.imm 1 (dInts l) ex) .nil))
  fun av X κ => av = avInt (rootsOf h l).2 ∧ X = [eHp (rootsOf h l).1] ∧ κ = [(0, [.d])] := by
 refine fb Try.func63 Try.ntmps63 [.tmp 4] fun w0 I0 F0 hF => ?_
 repeat first|refine n1 ?_|((first|refine rg 0 [0, 1] [0, 1] [] ?_|refine rg 1 [0, 1] [0, 1, 13] [(2, 9)] ?_);simp (maxSteps := 1000000) [hF])
 by_cases h1 : 50 < l.length
 ·have h1i : (50 : Int) < l.length := by omega
  have hc : rootsOf h l = (h, 1) := by simp [rootsOf, h1]
  refine (no_c h).go [(0, [])] (by simp (maxSteps := 1000000) [hF, h1, h1i, eHp]) ?_;rintro av X κ ⟨rfl, rfl, rfl⟩;simp (maxSteps := 1000000) [hF, h1, h1i, eHp]
  repeat first|refine n1 ?_|((first|refine rg 2 [] [4] [] ?_|refine nc ?_);simp (maxSteps := 1000000) [hF])
  refine VS.widen [(0, [.d])] (by simp [covers, mpre]) ?_
  (try refine nr ?_);(repeat first|refine nb_ ?_|refine nl_ ?_);refine endK.o [4] [0] [(0, [.d])] ?_;simp [hF, retK, covers, mpre, hc, eHp]
 have h1i : ¬ (50 : Int) < l.length := by omega
 refine (no_c h).go [(0, [])] (by simp (maxSteps := 1000000) [hF, h1, h1i, eHp]) ?_;rintro av X κ ⟨rfl, rfl, rfl⟩;simp (maxSteps := 1000000) [hF, h1, h1i, eHp]
 repeat first|refine n1 ?_|refine n2 ?_|refine n3 ?_|((first|refine rg 3 [0, 1] [0, 1, 5] [] ?_|refine nc ?_);simp (maxSteps := 1000000) [hF])
 refine VS.rounds (fun m st => ∃ (i : Nat), i + m = l.length ∧ (∀ j, (hj : j < l.length) → j < i → ¬ l[j] < 0) ∧ st = ⟨[(0, .ptr 0 [.d]), (1, .imm 1 (dInts l) ex), (5, avInt i)], [eHp h], [], []⟩) ⟨l.length, 0, by omega, by omega, by simp [eHp, eHb]⟩ ?_
 rintro m st ⟨i, hi, hall, rfl⟩
 repeat first|refine n1 ?_|((first|refine rg 4 [0, 1, 5] [0, 1, 5, 17] [] ?_|refine nc ?_);simp (maxSteps := 1000000) [hF])
 refine ⟨fun hlt => ?_, fun hge => ?_⟩
 ·have hlt : i < l.length := by omega
  have hn := dInts_nth hlt
  have hw : IntKind.i64.wrap ((i : Int) + 1) = (i + 1 : Nat) := by rw [IntWalk.i64_in _ (by omega)]; rfl
  by_cases hx : l[i] < 0
  ·have hc : rootsOf h l = (h, 1) := by rw [rootsOf, if_pos (.inr (List.any_eq_true.2 ⟨_, List.getElem_mem hlt, by simpa using hx⟩))]
   repeat first|refine n1 ?_|refine n2 ?_|refine n3 ?_|((first|refine rg 6 [0, 1, 5] [0, 1, 5, 24] [] ?_|refine rg 7 [] [4] [] ?_|refine nc ?_);simp (maxSteps := 1000000) [hF, hn, hlt, hx])
   refine VS.widen [(0, [.d])] (by simp [covers, mpre]) ?_
   (try refine nr ?_);(repeat first|refine nb_ ?_|refine nl_ ?_);refine endK.o [4] [0] [(0, [.d])] ?_;simp [hF, retK, covers, mpre, hc, eHp]
  ·repeat first|refine n1 ?_|refine n2 ?_|refine n3 ?_|refine n4 ?_|refine n5 ?_|refine n6 ?_|((first|refine rg 5 [0, 1, 5] [0, 1, 5] [] ?_|refine rg 6 [0, 1, 5] [0, 1, 5, 24] [] ?_|refine nc ?_);simp (maxSteps := 1000000) [hF, hn, hlt, hx, hw])
   refine nextK.of [0, 1, 5] [0] (m - 1) (by omega) (by simp [hF]) ?_
   refine ⟨i + 1, by omega, fun j hj hji => ?_, by simp [eHp, eHb]⟩
   rcases Nat.lt_or_ge j i with h2 | h2
   ·exact hall j hj h2
   ·obtain rfl : j = i := by omega
    exact hx
 ·have h2 : l.any (fun x => decide (x < 0)) = false := by
   rw [List.any_eq_false]
   intro x hx
   obtain ⟨j, hj, rfl⟩ := List.getElem_of_mem hx
   have := hall j hj (by omega)
   simpa using this
  repeat first|refine n1 ?_|refine n3 ?_|refine n7 ?_|(refine rg 8 [0, 1] [0, 1, 6] [] ?_;simp (maxSteps := 1000000) [hF])
  refine VS.rounds (fun m2 st => ∃ (i : Nat), i + m2 = l.length ∧ (∀ j, (hj : j < l.length) → j < i → there h l[j] = true) ∧ st = ⟨[(0, .ptr 0 [.d]), (1, .imm 1 (dInts l) ex), (6, avInt i)], [eHp h], [], []⟩) ⟨l.length, 0, by omega, by omega, by simp [eHp, eHb]⟩ ?_
  clear hi hall hge
  rintro m2 st ⟨i, hi, hall, rfl⟩
  repeat first|refine n1 ?_|((first|refine rg 9 [0, 1, 6] [0, 1, 6, 28] [] ?_|refine nc ?_);simp (maxSteps := 1000000) [hF])
  refine ⟨fun hlt => ?_, fun hge => ?_⟩
  ·have hlt : i < l.length := by omega
   have hn := dInts_nth hlt
   have hw : IntKind.i64.wrap ((i : Int) + 1) = (i + 1 : Nat) := by rw [IntWalk.i64_in _ (by omega)]; rfl
   repeat first|refine n1 ?_|refine n2 ?_|refine n3 ?_|(refine rg 11 [0, 1, 6] [0, 1, 6, 37] [] ?_;simp (maxSteps := 1000000) [hF, hn, hlt])
   cases ht : there h l[i] with
   | true =>
    refine (ethere_c h k l[i]).go [(0, [])] (by simp (maxSteps := 1000000) [hF, ht, eHp]) ?_;rintro av X κ ⟨rfl, rfl, rfl⟩;simp (maxSteps := 1000000) [hF, ht, eHp]
    repeat first|refine n2 ?_|refine n4 ?_|refine n5 ?_|refine n6 ?_|((first|refine rg 10 [0, 1, 6] [0, 1, 6] [] ?_|refine nc ?_);simp (maxSteps := 1000000) [hF, hw])
    refine nextK.of [0, 1, 6] [0] (m2 - 1) (by omega) (by simp [hF]) ?_
    refine ⟨i + 1, by omega, fun j hj hji => ?_, by simp [eHp, eHb]⟩
    rcases Nat.lt_or_ge j i with h2 | h2
    ·exact hall j hj h2
    ·obtain rfl : j = i := by omega
     exact ht
   | false =>
    have hc : rootsOf h l = (h, 3) := by rw [rootsOf, if_neg (by simp only [h2]; simp; omega), if_pos (List.any_eq_true.2 ⟨_, List.getElem_mem hlt, by simp [ht]⟩)]
    refine (ethere_c h k l[i]).go [(0, [])] (by simp (maxSteps := 1000000) [hF, ht, eHp]) ?_;rintro av X κ ⟨rfl, rfl, rfl⟩;simp (maxSteps := 1000000) [hF, ht, eHp]
    repeat first|refine n1 ?_|((first|refine rg 12 [] [4] [] ?_|refine nc ?_);simp (maxSteps := 1000000) [hF])
    refine VS.widen [(0, [.d])] (by simp [covers, mpre]) ?_
    (try refine nr ?_);(repeat first|refine nb_ ?_|refine nl_ ?_);refine endK.o [4] [0] [(0, [.d])] ?_;simp [hF, retK, covers, mpre, hc, eHp]
  ·have h3 : l.any (fun x => !there h x) = false := by
    rw [List.any_eq_false]
    intro x hx
    obtain ⟨j, hj, rfl⟩ := List.getElem_of_mem hx
    simp [hall j hj (by omega)]
   have hc : rootsOf h l = ({ h with roots := l }, 0) := by rw [rootsOf, if_neg (by simp only [h2]; simp; omega), if_neg (by simp only [h3]; simp)]
   have c1 : l.length * 8 ≤ 140737488355328 := by omega
   have c2 : l.length ≤ 9223372036854775807 := by omega
   have hm := dInts_mid l
   repeat first|refine n1 ?_|refine n7 ?_|((first|refine rg 13 [0, 1] [] [] ?_|refine rg 14 [] [4] [] ?_);simp (maxSteps := 1000000) [hF, eHp, eHb, c1, c2, hm])
   refine VS.widen [(0, [.d])] (by simp [covers, mpre]) ?_
   (try refine nr ?_);(repeat first|refine nb_ ?_|refine nl_ ?_);refine endK.o [4] [0] [(0, [.d])] ?_;simp [hF, retK, covers, mpre, hc, eHp, eHb]
end Go.Proofs.Ytfdcfjjobdnofaa

/- Play's deeds. -/
namespace Go.Proofs.Ytfdcfjjobdnofaa
set_option linter.all false
open Go.Vc Go.Proofs

def nz (l : List Int) : List Int := l.filter fun x => !decide (x = 0)
/-- A deed of Play. -/
def doP (h : Hp) (d a b c : Int) : Hp × Int × Int := if 0 ≤ d ∧ d ≤ 7 then doE h ⟨d, a, b, c, nz [a, b, c]⟩ else (h, -1, 0)
theorem fit_doP {n : Nat} {h : Hp} (f : Fit n h) (d a b c : Int) : Fit (n + 1) (doP h d a b c).1 := by
  rw [doP]
  split
  · exact fit_do f _
  · exact f.up
theorem Fit.next {n : Nat} {h : Hp} (f : Fit n h) : h.next ≤ n + 1 := f.fine.next
theorem Fit.wl {n : Nat} {h : Hp} (f : Fit n h) (hn : n ≤ 100000) : h.weak.length ≤ 1000000 := by have := f.fine.weak; omega
theorem Fit.fl {n : Nat} {h : Hp} (f : Fit n h) (hn : n ≤ 100000) : h.fins.length ≤ 1000000 := by have := f.fine.tags; omega
theorem Fit.ql {n : Nat} {h : Hp} (f : Fit n h) (hn : n ≤ 100000) : h.queue.length ≤ 1000000 := by have := f.fine.tags; omega
theorem Fit.ag {n : Nat} {h : Hp} (f : Fit n h) (hn : n ≤ 100000) : ∀ o ∈ h.young, o.age ≤ 1000000 := fun o ho => by have := f.age o (by simp [obs, ho]); omega
theorem doE_0 (h : Hp) (a b c : Int) (l : List Int) : doE h ⟨0, a, b, c, l⟩ = makeOf h a := by simp [doE]
theorem doE_1 (h : Hp) (a b c : Int) (l : List Int) : doE h ⟨1, a, b, c, l⟩ = ((setOf h a b c).1, 0, (setOf h a b c).2) := by simp [doE]
theorem doE_2 (h : Hp) (a b c : Int) (l : List Int) : doE h ⟨2, a, b, c, l⟩ = ((rootsOf h l).1, 0, (rootsOf h l).2) := by simp [doE]
theorem doE_3 (h : Hp) (a b c : Int) (l : List Int) : doE h ⟨3, a, b, c, l⟩ = ((collectE h true).1, (collectE h true).2, 0) := by simp [doE]
theorem doE_4 (h : Hp) (a b c : Int) (l : List Int) : doE h ⟨4, a, b, c, l⟩ = ((collectE h false).1, (collectE h false).2, 0) := by simp [doE]
theorem doE_5 (h : Hp) (a b c : Int) (l : List Int) : doE h ⟨5, a, b, c, l⟩ = weakOf h a b := by simp [doE]
theorem doE_6 (h : Hp) (a b c : Int) (l : List Int) : doE h ⟨6, a, b, c, l⟩ = ((finalOf h a b).1, 0, (finalOf h a b).2) := by simp [doE]
theorem doE_7 (h : Hp) (a b c : Int) (l : List Int) : doE h ⟨7, a, b, c, l⟩ = takeOf h := by simp [doE]
/-- What Play tells of a deed. -/
def tellP (h : Hp) (d a b c : Int) : Int := if (doP h d a b c).2.2 = 0 then (doP h d a b c).2.1 else -(doP h d a b c).2.2
def Small (e : Int) : Prop := 0 ≤ e ∧ e ≤ 9
theorem make_small (h : Hp) (n : Int) : Small (makeOf h n).2.2 := by unfold makeOf Small; refine ⟨?_, ?_⟩ <;> (repeat' split) <;> simp
theorem slot_small (h : Hp) (x s z : Int) : Small (slotErr h x s z) := by unfold slotErr Small; refine ⟨?_, ?_⟩ <;> (repeat' split) <;> simp
theorem asked_small (h : Hp) (x : Int) : Small (askedOf h x) := by unfold askedOf Small; refine ⟨?_, ?_⟩ <;> (repeat' split) <;> simp
theorem set_small (h : Hp) (x s z : Int) : Small (setOf h x s z).2 := by
  unfold setOf; split
  · exact slot_small h x s z
  · exact ⟨by simp, by simp⟩
theorem roots_small (h : Hp) (l : List Int) : Small (rootsOf h l).2 := by unfold rootsOf Small; refine ⟨?_, ?_⟩ <;> (repeat' split) <;> simp
theorem weak_small (h : Hp) (x t : Int) : Small (weakOf h x t).2.2 := by
  unfold weakOf; split
  · exact asked_small h x
  · exact ⟨by simp, by simp⟩
theorem final_small (h : Hp) (x t : Int) : Small (finalOf h x t).2 := by
  unfold finalOf; split
  · exact asked_small h x
  · exact ⟨by simp, by simp⟩
theorem take_small (h : Hp) : Small (takeOf h).2.2 := by unfold takeOf Small; refine ⟨?_, ?_⟩ <;> split <;> simp
end Go.Proofs.Ytfdcfjjobdnofaa
