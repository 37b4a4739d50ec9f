/- What is reached: the walk with a list of what is left to do is the walk that calls itself. -/
import Derived.Test.YtkkbcpcihadkhaaK5
import Derived.Test.YtkkbcpcihadkhaaK4
namespace Go.Proofs.Ytkkbcpcihadkhaa
set_option linter.all false
open Go.Vc Go.Proofs

/-- The walk, with just as much fuel as it needs. -/
def rW (L : List Tg) (seen : List Bool) (out work : List Int) : List Int := reachN (muS L seen + work.length) L seen out work
theorem rW_nil (L : List Tg) (seen : List Bool) (out : List Int) : rW L seen out [] = out := reachN_nil _ _ _ _
theorem rW_seen {L : List Tg} {seen : List Bool} {out w : List Int} {y : Nat} (hy : y < seen.length) (hs : seen[y] = true) : rW L seen out (w ++ [(y : Int)]) = rW L seen out w := by
  have e : muS L seen + (w ++ [(y : Int)]).length = (muS L seen + w.length) + 1 := by simp; omega
  rw [rW, e, reachN_seen hy hs, rW]
theorem rW_new {L : List Tg} {seen : List Bool} {out w : List Int} {y : Nat} (h1 : y < L.length) (hy : y < seen.length) (hs : seen[y] = false) :
    rW L seen out (w ++ [(y : Int)]) = rW L (seen.set y true) (out ++ [(y : Int)]) (w ++ (itemsOf L y).reverse) := by
  have hi : itemsOf L (y : Int) = L[y].items := by simp [itemsOf, h1]
  have hm := muS_set h1 hy hs
  have e : muS L seen + (w ++ [(y : Int)]).length = (muS L (seen.set y true) + (w ++ (itemsOf L y).reverse).length) + 1 := by simp [hi]; omega
  rw [rW, e, reachN_new hy hs, rW]

/-- What is there, and the items are numbers of things. -/
def ItemsOk (L : List Tg) : Prop := ∀ t ∈ L, ∀ z ∈ t.items, 0 ≤ z ∧ z < L.length
theorem itemsOf_ok {L : List Tg} (h : ItemsOk L) (y : Int) : ∀ z ∈ itemsOf L y, 0 ≤ z ∧ z < L.length := by
  intro z hz
  by_cases hy : y.toNat < L.length
  · have e : itemsOf L y = L[y.toNat].items := by simp [itemsOf, hy]
    rw [e] at hz
    exact h _ (List.getElem_mem hy) z hz
  · have e : itemsOf L y = [] := by simp [itemsOf, tgD, List.getElem?_eq_none (Nat.le_of_not_lt hy)]
    rw [e] at hz; cases hz

/-- The walk that calls itself: 'ok' says which things it goes into. -/
def rV (ok : Int → Bool) (L : List Tg) : Nat → List Int → Int → List Int
  | 0, out, _ => out
  | n + 1, out, y => if decide (y ∈ out) || !ok y then out else (itemsOf L y).foldl (rV ok L n) (out ++ [y])
/-- How many were not met. -/
def left (L : List Tg) (out : List Int) : Nat := ((List.range L.length).filter fun i : Nat => decide (¬ (i : Int) ∈ out)).length
theorem left_le (L : List Tg) {o o' : List Int} (h : ∀ z ∈ o, z ∈ o') : left L o' ≤ left L o := by
  refine List.Sublist.length_le ?_
  have : ∀ l : List Nat, (l.filter fun i : Nat => decide (¬ (i : Int) ∈ o')).Sublist (l.filter fun i : Nat => decide (¬ (i : Int) ∈ o)) := by
    intro l
    induction l with
    | nil => simp
    | cons a l ih =>
      by_cases h1 : (a : Int) ∈ o
      · have h2 := h _ h1
        simpa [List.filter_cons, h1, h2] using ih
      · by_cases h2 : (a : Int) ∈ o'
        · simpa [List.filter_cons, h1, h2] using ih.trans (List.sublist_cons_self _ _)
        · simpa [List.filter_cons, h1, h2] using ih
  exact this _
theorem left_lt (L : List Tg) {o : List Int} {y : Int} (hy : 0 ≤ y ∧ y < L.length) (h : y ∉ o) : left L (o ++ [y]) + 1 ≤ left L o := by
  have key : ∀ l : List Nat, l.Nodup → y.toNat ∈ l → (l.filter fun i : Nat => decide (¬ (i : Int) ∈ o ++ [y])).length + 1 = (l.filter fun i : Nat => decide (¬ (i : Int) ∈ o)).length := by
    intro l
    induction l with
    | nil => intro _ hm; cases hm
    | cons a l ih =>
      intro hn hm
      rw [List.nodup_cons] at hn
      by_cases ha : a = y.toNat
      · have hya : (a : Int) = y := by omega
        have e1 : (l.filter fun i : Nat => decide (¬ (i : Int) ∈ o ++ [y])) = l.filter fun i : Nat => decide (¬ (i : Int) ∈ o) := by
          refine List.filter_congr fun i hi => ?_
          have : (i : Int) ≠ y := fun e => hn.1 (by have : i = a := by omega
                                                    rwa [this] at hi)
          simp [this]
        simp only [List.filter_cons, hya]
        rw [e1]
        simp [h]
      · have hya : (a : Int) ≠ y := by omega
        have hm' : y.toNat ∈ l := by
          rcases List.mem_cons.1 hm with h' | h'
          · exact absurd h'.symm ha
          · exact h'
        have := ih hn.2 hm'
        simp only [List.filter_cons, List.mem_append, List.mem_singleton, hya, or_false] at this ⊢
        split <;> simp_all <;> omega
  exact Nat.le_of_eq (key _ List.nodup_range (by rw [List.mem_range]; omega))
theorem left_nil (L : List Tg) : left L [] = L.length := by rw [left, List.filter_eq_self.2 (fun _ _ => by simp), List.length_range]
theorem left_le_len (L : List Tg) (o : List Int) : left L o ≤ L.length := by
  have := left_le L (o := []) (o' := o) (fun _ h => by cases h)
  rwa [left_nil] at this

/-- The table of what was met is the list. -/
def Marks (L : List Tg) (seen : List Bool) (out : List Int) : Prop := seen.length = L.length ∧ (∀ y (h : y < seen.length), seen[y] = true ↔ (y : Int) ∈ out) ∧ ∀ z ∈ out, 0 ≤ z ∧ z < L.length
theorem Marks.new {L : List Tg} {seen : List Bool} {out : List Int} (h : Marks L seen out) {y : Nat} (hy : y < L.length) : Marks L (seen.set y true) (out ++ [(y : Int)]) := by
  refine ⟨by simp [h.1], fun i hi => ?_, fun z hz => ?_⟩
  · rw [List.length_set] at hi
    rw [List.getElem_set]
    by_cases e : y = i
    · subst e; simp
    · have := h.2.1 i hi
      rw [if_neg e, this]
      have : (i : Int) ≠ y := by omega
      simp [this]
  · rcases List.mem_append.1 hz with hz | hz
    · exact h.2.2 z hz
    · rw [List.mem_singleton] at hz; omega
theorem Marks.start (L : List Tg) : Marks L (List.replicate L.length false) [] := ⟨by simp, fun y h => by simp, fun _ h => by cases h⟩

theorem rV_mem (ok : Int → Bool) (L : List Tg) : ∀ (n : Nat) (out : List Int) (y z : Int), z ∈ out → z ∈ rV ok L n out y
  | 0, _, _, _, h => h
  | n + 1, out, y, z, h => by
    have hf : ∀ (l : List Int) (o : List Int), z ∈ o → z ∈ l.foldl (rV ok L n) o := by
      intro l
      induction l with
      | nil => exact fun _ h => h
      | cons a l ih => exact fun o ho => ih _ (rV_mem ok L n o a z ho)
    rw [rV]
    split
    · exact h
    · exact hf _ _ (by simp [h])
theorem fold_mem (ok : Int → Bool) (L : List Tg) (n : Nat) (z : Int) : ∀ (l : List Int) (o : List Int), z ∈ o → z ∈ l.foldl (rV ok L n) o := by
  intro l
  induction l with
  | nil => exact fun _ h => h
  | cons a l ih => exact fun o ho => ih _ (rV_mem ok L n o a z ho)

/-- The walk goes as the one that calls itself. -/
theorem rW_rV {L : List Tg} (hL : ItemsOk L) : ∀ (n : Nat) (zs : List Int) (seen : List Bool) (out w : List Int), Marks L seen out → left L out ≤ n → (∀ z ∈ zs, 0 ≤ z ∧ z < L.length) →
    ∃ seen', Marks L seen' (zs.foldl (rV (fun _ => true) L n) out) ∧ rW L seen out (w ++ zs.reverse) = rW L seen' (zs.foldl (rV (fun _ => true) L n) out) w := by
  intro n
  induction n with
  | zero =>
    intro zs
    induction zs with
    | nil => intro seen out w hm _ _; exact ⟨seen, hm, by simp⟩
    | cons a zs ih =>
      intro seen out w hm hn hz
      have ha := hz a (by simp)
      obtain ⟨k, rfl⟩ : ∃ k : Nat, a = k := ⟨a.toNat, by omega⟩
      have hk : k < seen.length := by rw [hm.1]; omega
      have hin : (k : Int) ∈ out := by
        refine Classical.byContradiction fun h => ?_
        have := left_lt L ha h; omega
      obtain ⟨s', h1, h2⟩ := ih seen out w hm hn (fun z h => hz z (by simp [h]))
      refine ⟨s', by simpa [rV] using h1, ?_⟩
      rw [List.reverse_cons, ← List.append_assoc, rW_seen hk ((hm.2.1 k hk).2 hin), h2]
      simp [rV]
  | succ n ihn =>
    intro zs
    induction zs with
    | nil => intro seen out w hm _ _; exact ⟨seen, hm, by simp⟩
    | cons a zs ih =>
      intro seen out w hm hn hz
      have ha := hz a (by simp)
      obtain ⟨k, rfl⟩ : ∃ k : Nat, a = k := ⟨a.toNat, by omega⟩
      have hk : k < seen.length := by rw [hm.1]; omega
      have hkL : k < L.length := by omega
      by_cases hin : (k : Int) ∈ out
      · obtain ⟨s', h1, h2⟩ := ih seen out w hm hn (fun z h => hz z (by simp [h]))
        refine ⟨s', by simpa [rV, hin] using h1, ?_⟩
        rw [List.reverse_cons, ← List.append_assoc, rW_seen hk ((hm.2.1 k hk).2 hin), h2]
        simp [rV, hin]
      · have hns : seen[k] = false := by
          cases hb : seen[k] with
          | false => rfl
          | true => exact absurd ((hm.2.1 k hk).1 hb) hin
        have hle := left_lt L ha hin
        obtain ⟨s1, g1, g2⟩ := ihn (itemsOf L k) (seen.set k true) (out ++ [(k : Int)]) (w ++ zs.reverse) (hm.new hkL) (by omega) (itemsOf_ok hL k)
        have e1 : rV (fun _ => true) L (n + 1) out (k : Int) = (itemsOf L k).foldl (rV (fun _ => true) L n) (out ++ [(k : Int)]) := by simp [rV, hin]
        have hle2 : left L ((itemsOf L k).foldl (rV (fun _ => true) L n) (out ++ [(k : Int)])) ≤ n + 1 :=
          Nat.le_trans (left_le L fun z h => fold_mem _ L n z _ _ h) (by omega)
        obtain ⟨s', h1, h2⟩ := ih s1 _ w g1 hle2 (fun z h => hz z (by simp [h]))
        refine ⟨s', by rw [List.foldl_cons, e1]; exact h1, ?_⟩
        rw [List.reverse_cons, ← List.append_assoc, rW_new hkL hk hns, g2, h2, List.foldl_cons, e1]

/-- What is reached, by the walk that calls itself. -/
def reachA (L : List Tg) (x : Int) : List Int := rV (fun _ => true) L L.length [] x
theorem rW_reach {L : List Tg} (hL : ItemsOk L) {x : Nat} (hx : x < L.length) : rW L (List.replicate L.length false) [] [(x : Int)] = reachA L x := by
  obtain ⟨s, _, h⟩ := rW_rV hL L.length [(x : Int)] (List.replicate L.length false) [] [] (Marks.start L) (by rw [left_nil]; exact Nat.le_refl _) (fun z h => by simp at h; omega)
  simpa [rW_nil, reachA] using h

/-- A house as it may be: nothing but what belongs to the same, or is shared, is reached from a thing. -/
structure Hok (h : Hs) : Prop where
  rooms : h.rooms.length ≤ 8
  things : h.things.length ≤ 400
  few : ∀ t ∈ h.things, t.items.length ≤ 50
  items : ItemsOk h.things
  queues : ∀ r ∈ h.rooms, r.queue.length ≤ 50 ∧ ∀ z ∈ r.queue, 0 ≤ z ∧ z < h.things.length
  owners : ∀ t ∈ h.things, -2 ≤ t.owner ∧ t.owner < h.rooms.length
  leaves : ∀ t ∈ h.things, t.list = false → t.items = []
  shared : ∀ t ∈ h.things, t.owner = -1 → t.frozen = true
  apart : ∀ t ∈ h.things, ∀ z ∈ t.items, (h.things.getD z.toNat tgD).owner = t.owner ∨ (h.things.getD z.toNat tgD).owner = -1
theorem muS_le {L : List Tg} (h : ∀ t ∈ L, t.items.length ≤ 50) : ∀ seen : List Bool, muS L seen ≤ 50 * L.length := by
  induction L with
  | nil => intro s; simp [muS]
  | cons t L ih =>
    intro s
    cases s with
    | nil => simp [muS]
    | cons b s =>
      have h1 := h t (by simp)
      have h2 := ih (fun t ht => h t (by simp [ht])) s
      simp only [muS, List.length_cons]
      split <;> omega
theorem Hok.muS {h : Hs} (hk : Hok h) (s : List Bool) : muS h.things s ≤ 20000 := by
  have := muS_le hk.few s
  have := hk.things
  omega
end Go.Proofs.Ytkkbcpcihadkhaa

/- What the deeds do with a house, plainly. -/
namespace Go.Proofs.Ytkkbcpcihadkhaa
set_option linter.all false
open Go.Vc Go.Proofs

def gd (L : List Tg) (z : Int) : Tg := L.getD z.toNat tgD
def gr (l : List Rm) (z : Int) : Rm := l.getD z.toNat ⟨[], false⟩
@[simp] theorem gd_at {L : List Tg} {k : Nat} (hk : k < L.length) : gd L (k : Int) = L[k] := by simp [gd, hk]
@[simp] theorem gr_at {L : List Rm} {k : Nat} (hk : k < L.length) : gr L (k : Int) = L[k] := by simp [gr, hk]
def notSh (L : List Tg) (z : Int) : Bool := decide (¬ (gd L z).owner = -1)
/-- What a thing reaches that is not shared. -/
def ownA (L : List Tg) (x : Int) : List Int := (reachA L x).filter (notSh L)
/-- The things of a list, changed. -/
def paint (f : Tg → Tg) (l : List Int) (L : List Tg) : List Tg := L.mapIdx fun i t => if (i : Int) ∈ l then f t else t
def setTg (h : Hs) (x : Int) (t : Tg) : Hs := { h with things := h.things.set x.toNat t }
def setRm (h : Hs) (x : Int) (r : Rm) : Hs := { h with rooms := h.rooms.set x.toNat r }
def addOf (h : Hs) (t : Tg) : Hs × Int × Int := if 400 ≤ h.things.length then (h, 0, 9) else ({ h with things := h.things ++ [t] }, h.things.length, 0)
def leafOf (h : Hs) (who w : Int) : Hs × Int × Int :=
  if w < -1000000000000000 ∨ 1000000000000000 < w then (h, 0, 1) else if ¬ askOf h who [] = 0 then (h, 0, askOf h who []) else addOf h ⟨who, false, w, [], false⟩
def listOf (h : Hs) (who : Int) (l : List Int) : Hs × Int × Int :=
  if 50 < l.length then (h, 0, 1) else if ¬ askOf h who l = 0 then (h, 0, askOf h who l) else addOf h ⟨who, true, 0, l, false⟩
def indexOf (h : Hs) (x i : Int) : Int := if isT h x = true ∧ ((gd h.things x).list = false ∨ i < 0 ∨ (gd h.things x).items.length ≤ i) then 1 else 0
def getOf (h : Hs) (who x i : Int) : Int × Int :=
  if ¬ indexOf h x i = 0 then (0, 1) else if ¬ askOf h who [x] = 0 then (0, askOf h who [x]) else ((gd h.things x).items.getD i.toNat 0, 0)
def setOf (h : Hs) (who x i z : Int) : Hs × Int :=
  if ¬ indexOf h x i = 0 then (h, 1) else if ¬ askOf h who [x, z] = 0 then (h, askOf h who [x, z]) else if (gd h.things x).frozen = true then (h, 13)
  else (setTg h x { gd h.things x with items := (gd h.things x).items.set i.toNat z }, 0)
def pushOf (h : Hs) (who x z : Int) : Hs × Int :=
  if isT h x = true ∧ (gd h.things x).list = false then (h, 1) else if ¬ askOf h who [x, z] = 0 then (h, askOf h who [x, z]) else if (gd h.things x).frozen = true then (h, 13)
  else if 50 ≤ (gd h.things x).items.length then (h, 9) else (setTg h x { gd h.things x with items := (gd h.things x).items ++ [z] }, 0)
def freezeOf (h : Hs) (who x : Int) : Hs × Int :=
  if askOf h who [x] = 0 ∧ (gd h.things x).list = true then (setTg h x { gd h.things x with frozen := true }, 0) else (h, askOf h who [x])
def shbl (L : List Tg) (x : Int) : Bool := (reachA L x).all fun y => !(notSh L y && (gd L y).list && !(gd L y).frozen)
def shareableOf (h : Hs) (x : Int) : Bool × Int :=
  if isT h x = false then (false, 1) else if (gd h.things x).owner = -2 then (false, 3) else (shbl h.things x, 0)
def shareF (t : Tg) : Tg := { t with owner := -1, frozen := true }
def ownF (to : Int) (t : Tg) : Tg := { t with owner := to }
def shareOf (h : Hs) (who x : Int) : Hs × Int :=
  if isR h who = true ∧ isT h x = true ∧ ¬ (gd h.things x).owner = -2 ∧ shbl h.things x = false then (h, 1)
  else if ¬ askOf h who [x] = 0 then (h, askOf h who [x]) else ({ h with things := paint shareF (reachA h.things x) h.things }, 0)
def sendsOf (h : Hs) (who to x : Int) : Int :=
  if isR h who = false ∨ isR h to = false ∨ isT h x = false then 1 else if overB h who = true ∨ overB h to = true then 8 else if seesB h who x = false then 3 else if 50 ≤ (gr h.rooms to).queue.length then 9 else 0
def putOf (h : Hs) (to x : Int) : Hs := setRm h to { gr h.rooms to with queue := (gr h.rooms to).queue ++ [x] }
/-- Where a number stands first; -1: nowhere. -/
def ixE (l : List Int) (y : Int) : Int := ixF (fun x => decide (x = y)) l
def placeOf (l : List Int) (first : Int) (y : Int) : Int := if 0 ≤ ixE l y then first + ixE l y else y
def copyT (l : List Int) (first to : Int) (t : Tg) : Tg := { t with owner := to, items := t.items.map (placeOf l first) }
def sendOf (h : Hs) (who to x : Int) : Hs × Int × Int :=
  if ¬ sendsOf h who to x = 0 then (h, 0, sendsOf h who to x) else if 400 < h.things.length + (ownA h.things x).length then (h, 0, 9) else
  (putOf { h with things := h.things ++ (ownA h.things x).map fun y => copyT (ownA h.things x) h.things.length to (gd h.things y) } to (placeOf (ownA h.things x) h.things.length x), placeOf (ownA h.things x) h.things.length x, 0)
def tiedAt (h : Hs) (who : Int) (l : List Int) (y : Nat) : Bool := decide ((gd h.things y).owner = who) && !hasN l y && (gd h.things y).items.any (hasN l)
/-- Whether others hold on to things of a list. -/
def tiedOf (h : Hs) (who : Int) (l : List Int) : Bool :=
  ((List.range h.things.length).any (tiedAt h who l)) || (gr h.rooms who).queue.any (hasN l)
def moveOf (h : Hs) (who to x : Int) : Hs × Int :=
  if isR h who = true ∧ isR h to = true ∧ isT h x = true ∧ (gd h.things x).owner = who ∧ tiedOf h who (ownA h.things x) = true then (h, 1)
  else if ¬ sendsOf h who to x = 0 then (h, sendsOf h who to x) else (putOf { h with things := paint (ownF to) (ownA h.things x) h.things } to x, 0)
def takeOf (h : Hs) (who : Int) : Hs × Int × Int :=
  if ¬ askOf h who [] = 0 then (h, 0, askOf h who []) else match (gr h.rooms who).queue with
    | [] => (h, 0, 3)
    | x :: q => (setRm h who { gr h.rooms who with queue := q }, x, 0)
def goneF (who : Int) (t : Tg) : Tg := if t.owner = who then { t with owner := -2 } else t
def overOf (h : Hs) (who : Int) : Hs × Int :=
  if ¬ askOf h who [] = 0 then (h, askOf h who []) else
  ({ rooms := h.rooms.set who.toNat ⟨[], true⟩, things := h.things.map (goneF who) }, 0)
def ownerOf (h : Hs) (x : Int) : Int × Int := if isT h x = false then (0, 1) else ((gd h.things x).owner, 0)
def wordOf (h : Hs) (who x : Int) : Int × Int :=
  if isT h x = true ∧ (gd h.things x).list = true then (0, 1) else if ¬ askOf h who [x] = 0 then (0, askOf h who [x]) else ((gd h.things x).word, 0)
/-- A cell of a graph: a list, a word, items. -/
structure Cl where
  list : Bool
  word : Int
  items : List Int
def cellOf (l : List Int) (t : Tg) : Cl := if t.list = true then ⟨true, 0, t.items.map (ixE l)⟩ else ⟨false, t.word, []⟩
def graphOf (h : Hs) (who x : Int) : List Cl × Int :=
  if ¬ askOf h who [x] = 0 then ([], askOf h who [x]) else ((reachA h.things x).map fun y => cellOf (reachA h.things x) (gd h.things y), 0)
end Go.Proofs.Ytkkbcpcihadkhaa

/- What is known of what is reached. -/
namespace Go.Proofs.Ytkkbcpcihadkhaa
set_option linter.all false
open Go.Vc Go.Proofs

/-- What holds of a thing, and of the items of what it holds of, holds of all that is reached. -/
theorem rV_ext {ok : Int → Bool} {L : List Tg} {Q : Int → Prop} (hc : ∀ y, Q y → ∀ z ∈ itemsOf L y, Q z) : ∀ (n : Nat) (out : List Int) (y : Int), Q y → ∃ e, rV ok L n out y = out ++ e ∧ ∀ z ∈ e, Q z
  | 0, out, y, _ => ⟨[], by simp [rV], by simp⟩
  | n + 1, out, y, hy => by
    have hf : ∀ (l : List Int), (∀ z ∈ l, Q z) → ∀ o : List Int, ∃ e, l.foldl (rV ok L n) o = o ++ e ∧ ∀ z ∈ e, Q z := by
      intro l
      induction l with
      | nil => exact fun _ o => ⟨[], by simp, by simp⟩
      | cons a l ih =>
        intro hl o
        obtain ⟨e1, h1, g1⟩ := rV_ext hc n o a (hl a (by simp))
        obtain ⟨e2, h2, g2⟩ := ih (fun z h => hl z (by simp [h])) (o ++ e1)
        exact ⟨e1 ++ e2, by rw [List.foldl_cons, h1, h2, List.append_assoc], fun z hz => (List.mem_append.1 hz).elim (g1 z) (g2 z)⟩
    rw [rV]
    split
    · exact ⟨[], by simp, by simp⟩
    · obtain ⟨e, h1, g1⟩ := hf _ (hc y hy) (out ++ [y])
      exact ⟨y :: e, by rw [h1]; simp, fun z hz => by rcases List.mem_cons.1 hz with rfl | h; exact hy; exact g1 z h⟩
theorem rV_nodup {ok : Int → Bool} {L : List Tg} : ∀ (n : Nat) (out : List Int) (y : Int), out.Nodup → (rV ok L n out y).Nodup
  | 0, _, _, h => h
  | n + 1, out, y, h => by
    have hf : ∀ (l : List Int) (o : List Int), o.Nodup → (l.foldl (rV ok L n) o).Nodup := by
      intro l
      induction l with
      | nil => exact fun _ h => h
      | cons a l ih => exact fun o ho => ih _ (rV_nodup n o a ho)
    rw [rV]
    split
    · exact h
    · rename_i hy
      refine hf _ _ (List.nodup_append.2 ⟨h, by simp, fun a ha b hb e => hy ?_⟩)
      rw [List.mem_singleton] at hb
      subst hb; subst e; simp [ha]
theorem rV_closed {L : List Tg} (hL : ItemsOk L) : ∀ (n : Nat) (out : List Int) (y : Int), left L out ≤ n → 0 ≤ y ∧ y < L.length →
    y ∈ rV (fun _ => true) L n out y ∧ ∀ u ∈ rV (fun _ => true) L n out y, u ∉ out → ∀ z ∈ itemsOf L u, z ∈ rV (fun _ => true) L n out y
  | 0, out, y, hn, hy => by
    have : y ∈ out := by
      refine Classical.byContradiction fun h => ?_
      have := left_lt L hy h; omega
    exact ⟨by simpa [rV] using this, fun u hu hx => absurd (by simpa [rV] using hu) hx⟩
  | n + 1, out, y, hn, hy => by
    have hf : ∀ (l : List Int) (o : List Int), left L o ≤ n → (∀ z ∈ l, 0 ≤ z ∧ z < L.length) → (∀ z ∈ l, z ∈ l.foldl (rV (fun _ => true) L n) o) ∧ ∀ u ∈ l.foldl (rV (fun _ => true) L n) o, u ∉ o → ∀ z ∈ itemsOf L u, z ∈ l.foldl (rV (fun _ => true) L n) o := by
      intro l
      induction l with
      | nil => exact fun o _ _ => ⟨by simp, fun u hu hx => absurd hu hx⟩
      | cons a l ih =>
        intro o ho hl
        obtain ⟨h1, h2⟩ := rV_closed hL n o a ho (hl a (by simp))
        obtain ⟨g1, g2⟩ := ih (rV (fun _ => true) L n o a) (Nat.le_trans (left_le L fun z h => rV_mem _ L n _ _ _ h) ho) (fun z h => hl z (by simp [h]))
        refine ⟨fun z hz => ?_, fun u hu hx z hz => ?_⟩
        · rcases List.mem_cons.1 hz with rfl | hz
          · exact fold_mem _ L n _ l _ h1
          · exact g1 z hz
        · by_cases hu' : u ∈ rV (fun _ => true) L n o a
          · exact fold_mem _ L n _ l _ (h2 u hu' hx z hz)
          · exact g2 u hu hu' z hz
    by_cases hin : y ∈ out
    · have e : rV (fun _ => true) L (n + 1) out y = out := by simp [rV, hin]
      rw [e]
      exact ⟨hin, fun u hu hx => absurd hu hx⟩
    · have hlt := left_lt L hy hin
      obtain ⟨h1, h2⟩ := hf (itemsOf L y) (out ++ [y]) (by omega) (itemsOf_ok hL y)
      have e : rV (fun _ => true) L (n + 1) out y = (itemsOf L y).foldl (rV (fun _ => true) L n) (out ++ [y]) := by simp [rV, hin]
      rw [e]
      refine ⟨fold_mem _ L n _ _ _ (by simp), fun u hu hx z hz => ?_⟩
      by_cases hy' : u = y
      · subst hy'; exact h1 z hz
      · exact h2 u hu (by simp [hx, hy']) z hz

theorem reachA_valid {L : List Tg} (hL : ItemsOk L) {x : Int} (hx : 0 ≤ x ∧ x < L.length) : ∀ z ∈ reachA L x, 0 ≤ z ∧ z < L.length := by
  obtain ⟨e, h1, h2⟩ := rV_ext (ok := fun _ => true) (L := L) (Q := fun z => 0 ≤ z ∧ z < L.length) (fun y _ z hz => itemsOf_ok hL y z hz) L.length [] x hx
  intro z hz; rw [reachA, h1] at hz; exact h2 z (by simpa using hz)
theorem reachA_nodup (L : List Tg) (x : Int) : (reachA L x).Nodup := rV_nodup _ _ _ (by simp)
theorem reachA_self {L : List Tg} (hL : ItemsOk L) {x : Int} (hx : 0 ≤ x ∧ x < L.length) : x ∈ reachA L x := (rV_closed hL L.length [] x (by rw [left_nil]; exact Nat.le_refl _) hx).1
theorem reachA_closed {L : List Tg} (hL : ItemsOk L) {x : Int} (hx : 0 ≤ x ∧ x < L.length) {y : Int} (hy : y ∈ reachA L x) : ∀ z ∈ itemsOf L y, z ∈ reachA L x :=
  (rV_closed hL L.length [] x (by rw [left_nil]; exact Nat.le_refl _) hx).2 y hy (by simp)
theorem reachA_ind {L : List Tg} {Q : Int → Prop} (hc : ∀ y, Q y → ∀ z ∈ itemsOf L y, Q z) {x : Int} (hx : Q x) : ∀ z ∈ reachA L x, Q z := by
  obtain ⟨e, h1, h2⟩ := rV_ext (ok := fun _ => true) hc L.length [] x hx
  intro z hz; rw [reachA, h1] at hz; exact h2 z (by simpa using hz)
/-- A list without doubles of small numbers is short. -/
theorem nodup_len {l : List Int} {n : Nat} (hn : l.Nodup) (h : ∀ z ∈ l, 0 ≤ z ∧ z < n) : l.length ≤ n := by
  have h2 : (l.map Int.toNat) ⊆ List.range n := fun z hz => by
    obtain ⟨a, ha, rfl⟩ := List.mem_map.1 hz
    have := h a ha
    rw [List.mem_range]; omega
  have h1 : (l.map Int.toNat).Nodup := by
    clear h2
    induction l with
    | nil => simp
    | cons a l ih =>
      rw [List.nodup_cons] at hn
      rw [List.map_cons, List.nodup_cons]
      refine ⟨fun hm => hn.1 ?_, ih hn.2 fun z hz => h z (by simp [hz])⟩
      obtain ⟨b, hb, e⟩ := List.mem_map.1 hm
      have ha := h a (by simp)
      have hb' := h b (by simp [hb])
      have : b = a := by omega
      exact this ▸ hb
  have := h1.length_le_of_subset h2
  simpa using this
end Go.Proofs.Ytkkbcpcihadkhaa

/- Things of a list that change one after the other. -/
namespace Go.Proofs.Ytkkbcpcihadkhaa
set_option linter.all false
open Go.Vc Go.Proofs

def upto (f : Tg → Tg) (L : List Tg) (i : Nat) : List Tg := L.mapIdx fun j t => if j < i then f t else t
@[simp] theorem upto_len (f : Tg → Tg) (L : List Tg) (i : Nat) : (upto f L i).length = L.length := by simp [upto]
theorem upto_zero (f : Tg → Tg) (L : List Tg) : upto f L 0 = L := by
  refine List.ext_getElem (by simp) fun i h1 h2 => ?_
  simp [upto]
theorem upto_at {f : Tg → Tg} {L : List Tg} {i : Nat} (h : i < L.length) : (upto f L i)[i]'(by simpa using h) = L[i] := by simp [upto]
theorem upto_set {f : Tg → Tg} {L : List Tg} {i : Nat} (h : i < L.length) : (upto f L i).set i (f L[i]) = upto f L (i + 1) := by
  refine List.ext_getElem (by simp) fun j h1 h2 => ?_
  rw [List.getElem_set]
  by_cases e : i = j
  · subst e; simp [upto]
  · rw [if_neg e]
    simp only [upto, List.getElem_mapIdx]
    by_cases h3 : j < i
    · rw [if_pos h3, if_pos (by omega)]
    · rw [if_neg h3, if_neg (by omega)]
theorem upto_skip {f : Tg → Tg} {L : List Tg} {i : Nat} (h : i < L.length) (hf : f L[i] = L[i]) : upto f L (i + 1) = upto f L i := by
  rw [← upto_set h, hf]
  refine List.ext_getElem (by simp) fun j h1 h2 => ?_
  rw [List.getElem_set]
  by_cases e : i = j
  · subst e; rw [if_pos rfl, upto_at h]
  · rw [if_neg e]
theorem upto_all (f : Tg → Tg) (L : List Tg) : upto f L L.length = L.map f := by
  refine List.ext_getElem (by simp) fun j h1 h2 => ?_
  simp at h1
  simp [upto, h1]

@[simp] theorem paint_len (f : Tg → Tg) (l : List Int) (L : List Tg) : (paint f l L).length = L.length := by simp [paint]
theorem paint_nil (f : Tg → Tg) (L : List Tg) : paint f [] L = L := by
  refine List.ext_getElem (by simp) fun i h1 h2 => ?_
  simp [paint]
theorem paint_at {f : Tg → Tg} {l : List Int} {L : List Tg} {i : Nat} (h : i < L.length) : (paint f l L)[i]'(by simpa using h) = if (i : Int) ∈ l then f L[i] else L[i] := by simp [paint]
theorem paint_step {f : Tg → Tg} (hf : ∀ t, f (f t) = f t) {l : List Int} {L : List Tg} {y : Nat} (h : y < L.length) :
    (paint f l L).set y (f ((paint f l L)[y]'(by simpa using h))) = paint f (l ++ [(y : Int)]) L := by
  refine List.ext_getElem (by simp) fun j h1 h2 => ?_
  have hj : j < L.length := by simpa using h2
  rw [List.getElem_set]
  have e2 : (paint f (l ++ [(y : Int)]) L)[j] = if (j : Int) ∈ l ++ [(y : Int)] then f L[j] else L[j] := paint_at hj
  rw [e2]
  by_cases e : y = j
  · subst e
    have e1 := paint_at (f := f) (l := l) hj
    rw [if_pos rfl, if_pos (by simp), e1]
    split
    · rw [hf]
    · rfl
  · have e1 := paint_at (f := f) (l := l) hj
    rw [if_neg e, e1]
    have : (j : Int) ≠ y := by omega
    simp [this]
end Go.Proofs.Ytkkbcpcihadkhaa

/- What a thing reaches. -/
namespace Go.Proofs.Ytkkbcpcihadkhaa
set_option linter.all false
open Go.Vc Go.Proofs
set_option linter.unusedSimpArgs false
set_option linter.unusedVariables false
set_option maxRecDepth 100000
set_option maxHeartbeats 4000000
attribute [local irreducible] CallW EqK

def dWk (l : List Int) : D := .box true () (.sl true () 1 (dInts l))
@[simp high] theorem head_dWk (l : List Int) : isHead (dWk l) = true := by rw [dWk, isHead]

/- (*cabochon/isolate.House).reach -/
theorem reach_ok (h : Hs) (hok : Hok h) (x : Nat) (hx : x < h.things.length) : Meets Try.prog 43 [] (.cons (avH h) (.cons (avInt x) .nil)) fun av X κ => av = .sub 0 [] 0 (reachA h.things x).length false ∧ X = [.sl true () 1 (dInts (reachA h.things x))] ∧ κ = [] := by
  have hl := hok.things
  have hmx : muS h.things (List.replicate h.things.length false) + 1 ≤ 1000000 := by have := hok.muS (List.replicate h.things.length false); omega
  have b1 : (h.things.length : Int) ≤ 140737488355328 := by omega
  have b2 : (h.things.length : Int) ≤ 9223372036854775807 := by omega
  have hz := zeros_bools h.things.length
  refine Meets.of_vsI tabOk Try.func43 (body := ?_) ?_ (by kernel_rfl) Try.ntmps43 (rs := [.tmp 4]) (by kernel_rfl) rfl (by simp [AV.len]) (by simp only [envOf]; exact rfl) ?_
  rotate_left
  · rfl
  intro w0 I0 F0 hF hI
  repeat first
    | refine VS.seq ?_
    | refine VS.block ?_
    | (refine VS.keepAt 0 [0, 1, 10, 54] ?_; generalize hK : VS _ _ _ = KK; (try simp); (try subst hK); refine VS.region tabOk (id := 0) [] (by kernel_rfl) ?_; generalize hK : VS _ _ _ = KK; simp (maxSteps := 1000000) [hF, dHI, b1, b2]; (try subst hK); try (refine VS.keep [0, 1, 10, 54] ?_; generalize hK : VS _ _ _ = KK; simp; (try subst hK)))
    | (refine VS.keepAt 1 [0, 1, 10, 54] ?_; generalize hK : VS _ _ _ = KK; (try simp); (try subst hK); refine VS.region tabOk (id := 1) [] (by kernel_rfl) ?_; generalize hK : VS _ _ _ = KK; simp (maxSteps := 1000000) [hF, dHI, b1, b2]; (try subst hK); try (refine VS.keep [0, 1, 5, 10, 54] ?_; generalize hK : VS _ _ _ = KK; simp; (try subst hK)))
    | (refine VS.keepAt 2 [0, 1, 5, 10, 54] ?_; generalize hK : VS _ _ _ = KK; (try simp); (try subst hK); refine VS.region tabOk (id := 2) [] (by kernel_rfl) ?_; generalize hK : VS _ _ _ = KK; simp (maxSteps := 1000000) [hF, dHI, b1, b2]; (try subst hK); try (refine VS.keep [0, 1, 5, 6, 10, 54] ?_; generalize hK : VS _ _ _ = KK; simp; (try subst hK)))
    | (refine VS.keepAt 3 [0, 1, 5, 6, 10, 54] ?_; generalize hK : VS _ _ _ = KK; (try simp); (try subst hK); refine VS.region tabOk (id := 3) [] (by kernel_rfl) ?_; generalize hK : VS _ _ _ = KK; simp (maxSteps := 1000000) [hF, dHI, b1, b2]; (try subst hK); try (refine VS.keep [0, 5, 6, 7, 10, 54] ?_; generalize hK : VS _ _ _ = KK; simp; (try subst hK)))
  refine VS.hold0 5 1 (by simp) ?_
  generalize hK : VS _ _ _ = KK; simp; (try subst hK)
  refine VS.pick [0, 5, 6, 7, 10, 54] [0, 3, 2] (by simp [hF]) ?_
  generalize hK : VS _ _ _ = KK; simp [hF]; (try subst hK)
  refine VS.rounds (fun m st => ∃ (seen : List Bool) (out work : List Int), seen.length = h.things.length ∧ (∀ y ∈ work, isT h y = true) ∧ muS h.things seen + work.length = m ∧ out.length + m ≤ 1000000 ∧ rW h.things seen out work = reachA h.things x ∧ st = ⟨[(0, avH h), (5, .sub 1 [] 0 out.length false), (6, .sub 0 [] 0 h.things.length true), (7, .ptr 2 [.d]), (10, .bad), (54, .bad)],
    [.sl true () 1 (dBools seen), .sl true () 1 (dInts out), dWk work], [], []⟩) ⟨muS h.things (List.replicate h.things.length false) + 1, List.replicate h.things.length false, [], [(x : Int)], by simp, by simp [isT, hx], by simp, by simpa using hmx, rW_reach hok.items hx, by simp [dWk, hz]; rfl⟩ ?_
  rintro m st ⟨seen, out, work, hsl, hwk, hmu, hmb, hrw, rfl⟩
  repeat first
    | refine VS.seq ?_
    | (refine VS.keepAt 4 [0, 5, 6, 7, 10, 54] ?_; generalize hK : VS _ _ _ = KK; (try simp); (try subst hK); refine VS.region tabOk (id := 4) [] (by kernel_rfl) ?_; generalize hK : VS _ _ _ = KK; simp (maxSteps := 1000000) [hF, dWk]; (try subst hK); try (refine VS.keep [0, 5, 6, 7, 10, 21, 54] ?_; generalize hK : VS _ _ _ = KK; simp; (try subst hK)))
    | (refine VS.cond ?_; generalize hK1 : VS _ _ _ = KK1; generalize hK2 : VS _ _ _ = KK2; simp (maxSteps := 1000000) [hF, dWk]; (try subst hK1); (try subst hK2))
  refine ⟨fun hne => ?_, fun he => ?_⟩
  · obtain ⟨w, y, rfl⟩ : ∃ w y, work = w ++ [y] := ⟨work.dropLast, work.getLast (by intro e; subst e; simp at hne), (List.dropLast_concat_getLast _).symm⟩
    obtain ⟨y, rfl, hy⟩ := isT_nat (hwk y (by simp))
    have hys : y < seen.length := by omega
    simp only [List.length_append, List.length_cons, List.length_nil] at hmu
    have hlen : (w ++ [(y : Int)]).length = w.length + 1 := by simp
    have hn : (dInts (w ++ [(y : Int)])).nth w.length = .val (.int .i64 y) := by rw [dInts_nth (by simp)]; simp
    have hsub : IntKind.i64.wrap (w.length : Int) = (w.length : Int) := IntWalk.i64_in _ (by omega)
    have c1 : (w.length : Int) < (w.length : Int) + 1 := by omega
    have c2 : w.length < w.length + 1 := by omega
    have hmid : (dInts (w ++ [(y : Int)])).mid 0 w.length = dInts w := by rw [dInts_mid]; simp
    repeat first
      | refine VS.seq ?_
      | refine VS.skip ?_
      | refine VS.block ?_
      | (refine VS.keepAt 5 [0, 5, 6, 7, 10, 54] ?_; generalize hK : VS _ _ _ = KK; (try simp); (try subst hK); refine VS.region tabOk (id := 5) [] (by kernel_rfl) ?_; generalize hK : VS _ _ _ = KK; simp (maxSteps := 1000000) [hF, dWk, hlen, hn, hsub, c1, c2]; (try subst hK); try (refine VS.keep [0, 5, 6, 7, 8, 10, 54] ?_; generalize hK : VS _ _ _ = KK; simp; (try subst hK)))
    refine VS.lift 2 [.d] (by simp (maxSteps := 1000000) [hF, dWk, hlen]) (by simp (maxSteps := 1000000) [hF, dWk, hlen]) (by simp [isNode, dWk, hlen]) (by simp (maxSteps := 1000000) [hF, dWk, hlen]) ?_
    generalize hK : VS _ _ _ = KK; simp [hF, St.lift, AV.lift, liftPl, stripP, nodeAV, dWk, hlen]; (try subst hK)
    repeat first
      | refine VS.seq ?_
      | (refine VS.keepAt 6 [0, 5, 6, 7, 8, 10, 54] ?_; generalize hK : VS _ _ _ = KK; (try simp); (try subst hK); refine VS.region tabOk (id := 6) [] (by kernel_rfl) ?_; generalize hK : VS _ _ _ = KK; simp (maxSteps := 1000000) [hF, hlen, hsub, c1, c2, hmid]; (try subst hK); try (refine VS.keep [0, 5, 6, 7, 8, 10, 54] ?_; generalize hK : VS _ _ _ = KK; simp; (try subst hK)))
    have hbn := dBools_nth hys
    have c3 : (y : Int) < h.things.length := by omega
    refine VS.pick [0, 5, 6, 7, 8, 10, 54] [0, 1, 2] (by simp [hF]) ?_
    generalize hK : VS _ _ _ = KK; simp [hF]; (try subst hK)
    cases hb : seen[y] with
    | true =>
      rw [hb] at hbn
      repeat first
        | refine VS.nil ?_
        | refine loopN_normal ?_
        | refine VS.exit ?_
        | (refine VS.keepAt 7 [0, 5, 6, 7, 8, 10, 54] ?_; generalize hK : VS _ _ _ = KK; (try simp); (try subst hK); refine VS.region tabOk (id := 7) [] (by kernel_rfl) ?_; generalize hK : VS _ _ _ = KK; simp (maxSteps := 1000000) [hF, hbn, hy, hys, c3, hsl]; (try subst hK); try (refine VS.keep [0, 5, 6, 7, 8, 10, 36, 54] ?_; generalize hK : VS _ _ _ = KK; simp; (try subst hK)))
        | (refine VS.cond ?_; generalize hK1 : VS _ _ _ = KK1; generalize hK2 : VS _ _ _ = KK2; simp (maxSteps := 1000000) [hF, hbn, hy, hys, c3, hsl]; (try subst hK1); (try subst hK2))
      refine nextK.of [0, 5, 6, 7, 10, 54] [0, 1, 2] (m - 1) (by omega) (by simp [hF]) ?_
      refine ⟨seen, out, w, hsl, fun z hz => hwk z (by simp [hz]), by omega, by omega, by rw [← hrw, rW_seen hys hb], ?_⟩
      simp [dWk]
    | false =>
      rw [hb] at hbn
      have c4 : (out.length + 1) * 8 ≤ 140737488355328 := by omega
      have c5 : out.length ≤ 9223372036854775806 := by omega
      have htn := dTgs_nth (o := false) hy
      have hset := dBools_set seen y true
      repeat first
        | refine VS.seq ?_
        | refine VS.skip ?_
        | (refine VS.keepAt 7 [0, 5, 6, 7, 8, 10, 54] ?_; generalize hK : VS _ _ _ = KK; (try simp); (try subst hK); refine VS.region tabOk (id := 7) [] (by kernel_rfl) ?_; generalize hK : VS _ _ _ = KK; simp (maxSteps := 1000000) [hF, hbn, hy, hys, c3, hsl, c4, c5, dHI, htn, hset]; (try subst hK); try (refine VS.keep [0, 5, 6, 7, 8, 10, 36, 54] ?_; generalize hK : VS _ _ _ = KK; simp; (try subst hK)))
        | (refine VS.keepAt 8 [0, 5, 6, 7, 8, 10, 54] ?_; generalize hK : VS _ _ _ = KK; (try simp); (try subst hK); refine VS.region tabOk (id := 8) [] (by kernel_rfl) ?_; generalize hK : VS _ _ _ = KK; simp (maxSteps := 1000000) [hF, hbn, hy, hys, c3, hsl, c4, c5, dHI, htn, hset]; (try subst hK); try (refine VS.keep [0, 5, 6, 7, 8, 10, 54] ?_; generalize hK : VS _ _ _ = KK; simp; (try subst hK)))
        | (refine VS.keepAt 9 [0, 5, 6, 7, 8, 10, 54] ?_; generalize hK : VS _ _ _ = KK; (try simp); (try subst hK); refine VS.region tabOk (id := 9) [] (by kernel_rfl) ?_; generalize hK : VS _ _ _ = KK; simp (maxSteps := 1000000) [hF, hbn, hy, hys, c3, hsl, c4, c5, dHI, htn, hset]; (try subst hK); try (refine VS.keep [0, 5, 6, 7, 8, 10, 54] ?_; generalize hK : VS _ _ _ = KK; simp; (try subst hK)))
        | (refine VS.keepAt 10 [0, 5, 6, 7, 8, 10, 54] ?_; generalize hK : VS _ _ _ = KK; (try simp); (try subst hK); refine VS.region tabOk (id := 10) [] (by kernel_rfl) ?_; generalize hK : VS _ _ _ = KK; simp (maxSteps := 1000000) [hF, hbn, hy, hys, c3, hsl, c4, c5, dHI, htn, hset]; (try subst hK); try (refine VS.keep [0, 5, 6, 7, 10, 54] ?_; generalize hK : VS _ _ _ = KK; simp; (try subst hK)))
        | (refine VS.cond ?_; generalize hK1 : VS _ _ _ = KK1; generalize hK2 : VS _ _ _ = KK2; simp (maxSteps := 1000000) [hF, hbn, hy, hys, c3, hsl, c4, c5, dHI, htn, hset]; (try subst hK1); (try subst hK2))
      refine (backward_ok false h.things[y].items).call [] (by simp) (by simp (maxSteps := 1000000) [hF]) (by simp (maxSteps := 1000000) [hF]) (by simp (maxSteps := 1000000) [hF]) (by simp) ?_
      rintro av X κ ⟨rfl, rfl, rfl⟩
      generalize hK : VS _ _ _ = KK; simp (maxSteps := 1000000) [hF]; (try subst hK)
      repeat first
        | refine VS.block ?_
      have hin : h.things[y].items.length ≤ 1000000 := by have := hok.few _ (List.getElem_mem hy); omega
      refine VS.pick [0, 5, 6, 7, 10, 52, 54] [0, 1, 2, 4] (by simp [hF]) ?_
      generalize hK : VS _ _ _ = KK; simp [hF]; (try subst hK)
      generalize hI2 : h.things[y].items = its at *
      refine VS.rangeFunc hI (gf := 100) (s := .cons (.ptr 3 [.d]) .nil) rfl (by exact ⟨_, Try.func100, by rfl, by rfl⟩) its.length (fun j => .int .i64 ((its.length - 1 - j : Nat) : Int)) (fun j => .int .i64 (its[its.length - 1 - j]?.getD 0)) (fun _ => rfl) (fun _ => rfl) (by show 53 < 60; decide) (by show 54 < 60; decide)
        (fun j => [.sl true () 1 (dBools (seen.set y true)), .sl true () 1 (dInts (out ++ [(y : Int)])), .box true () (.sl true () 1 (dInts (w ++ its.reverse.take j))), dBox its]) (by simp)
        (fun j => [(0, avH h), (5, .sub 1 [] 0 (out.length + 1) false), (6, .sub 0 [] 0 h.things.length true), (7, .ptr 2 [.d]), (10, avInt (its[its.length - 1 - j]?.getD 0)), (52, .fn 100 (.cons (.ptr 3 [.d]) .nil))])
        (RdB its) (back_iter its hin) (fun j W I F lbs hX hh hr => read_box hX (by simp; rfl) hh hr) ?_ ?_ ?_
      · intro j hj w0' I0' F0' hF1
        simp only [List.length_cons, List.length_nil, Nat.reduceAdd] at hF1
        refine VI.regionPick (c := ⟨Try.prog, 60, w0', I0', F0'⟩) tabOk [0, 5, 6, 7, 10, 52] [0, 1, 2, 3] [] (by kernel_rfl) ?_
        simp (maxSteps := 1000000) [hF1]
      · intro j hj w0' I0' F0' hF1
        simp only [List.length_cons, List.length_nil, Nat.reduceAdd] at hF1
        refine VI.block ?_
        refine VI.lift (c := ⟨Try.prog, 60, w0', I0', F0'⟩) 2 [.d] (by simp) (by simp [St.tree]) (by simp [St.tree]) (by simp [St.tree]) ?_
        refine VI.regionPick (c := ⟨Try.prog, 60, w0', I0', F0'⟩) tabOk [0, 5, 6, 7, 10, 52] [0, 1, 2, 3] [] (by kernel_rfl) ?_
        have hFz : F0.length = 0 := hF
        simp (maxSteps := 1000000) [hF1]
        have hL : (w ++ its.reverse.take j).length = w.length + min j its.length := by simp
        have hT : its.reverse.take (j + 1) = its.reverse.take j ++ [its[its.length - 1 - j]?.getD 0] := by
          rw [List.take_add_one, List.getElem?_reverse hj, List.getElem?_eq_getElem (by omega)]; rfl
        refine ⟨⟨by omega, by omega⟩, ?_, fun k q => ⟨fun hk => by omega, fun hk => by omega⟩⟩
        rw [← hL, dInts_mid_all, dInts_app1, hT, ← List.append_assoc]
        have e := dInts_mid_all (w ++ its.reverse.take j ++ [its[its.length - 1 - j]?.getD 0])
        rwa [List.length_append, List.length_singleton] at e
      · have hy3 : (seen.set y true).length = h.things.length := by simp [hsl]
        have hmm := muS_set hy hys hb
        have hLr : (w ++ its.reverse).length = w.length + its.length := by simp
        rw [hI2] at hmm
        dsimp only
        repeat first
          | refine VS.nil ?_
          | refine loopN_normal ?_
        refine nextK.of [0, 5, 6, 7, 10, 54] [0, 1, 2] (m - 1) (by omega) (by simp [hF]) ?_
        refine ⟨seen.set y true, out ++ [(y : Int)], w ++ its.reverse, hy3, fun z hz => ?_, by omega, by simp; omega, ?_, ?_⟩
        · rcases List.mem_append.1 hz with hz | hz
          · exact hwk z (by simp [hz])
          · have := hok.items _ (List.getElem_mem hy) z (by rw [hI2]; simpa using hz)
            simpa [isT] using this
        · rw [← hrw, rW_new hy hys hb]
          simp [itemsOf, hy, hI2]
        · rw [List.take_of_length_le (by simp)]
          simp [dWk]
  · have he : work = [] := by simpa using he
    subst he
    repeat first
      | refine VS.seq ?_
      | refine VS.exit ?_
      | (refine VS.keepAt 13 [5] ?_; generalize hK : VS _ _ _ = KK; (try simp); (try subst hK); refine VS.region tabOk (id := 13) [] (by kernel_rfl) ?_; generalize hK : VS _ _ _ = KK; simp (maxSteps := 1000000) [hF]; (try subst hK); try (refine VS.keep [4] ?_; generalize hK : VS _ _ _ = KK; simp; (try subst hK)))
    rw [rW_nil] at hrw
    try refine VS.ret ?_
    repeat first | refine blockN_ret ?_ | refine loopN_ret ?_
    refine endK.of [4] [1] [] (by simp [hF]) (by simp [covers, mpre]) ?_
    simp [hF, retK, hrw]
end Go.Proofs.Ytkkbcpcihadkhaa

/- What is asked of one thing. -/
namespace Go.Proofs.Ytkkbcpcihadkhaa
set_option linter.all false
open Go.Vc Go.Proofs
set_option linter.unusedSimpArgs false
set_option linter.unusedVariables false
set_option maxRecDepth 100000
set_option maxHeartbeats 4000000
attribute [local irreducible] CallW EqK

theorem has_s1 (h : Hs) (ex : Bool) (x : Int) : Meets Try.prog 41 [.sl true () 1 (.cons (.val (.int .i64 x)) .nil)] (.cons (avH h) (.cons (.sub 0 [] 0 1 ex) .nil))
    fun av X κ => av = avBool (isT h x) ∧ X = [.sl true () 1 (.cons (.val (.int .i64 x)) .nil)] ∧ κ = [] := by
  have h1 := has_s h ex [x] (by simp)
  simpa [List.all, dInts, sq, dInt] using h1
theorem ask_s1 (h : Hs) (who : Int) (ex : Bool) (x : Int) : Meets Try.prog 42 [.sl true () 1 (.cons (.val (.int .i64 x)) .nil)] (.cons (avH h) (.cons (avInt who) (.cons (.sub 0 [] 0 1 ex) .nil)))
    fun av X κ => av = avInt (askOf h who [x]) ∧ X = [.sl true () 1 (.cons (.val (.int .i64 x)) .nil)] ∧ κ = [] := by
  have h1 := ask_s h who ex [x] (by simp)
  simpa [dInts, sq, dInt] using h1

/- (*cabochon/isolate.House).Owner -/
theorem owner_ok (h : Hs) (x : Int) : Meets Try.prog 14 [] (.cons (avH h) (.cons (avInt x) .nil)) fun av X κ => av = two (ownerOf h x) ∧ X = [] ∧ κ = [] := by
  refine Meets.of_vs tabOk Try.func14 (body := ?_) ?_ (by kernel_rfl) Try.ntmps14 (rs := [.tmp 4, .tmp 5]) (by kernel_rfl) rfl (by simp [AV.len]) (by simp only [envOf]; exact rfl) ?_
  rotate_left
  · rfl
  intro w0 I0 F0 hF
  repeat first
    | refine VS.seq ?_
    | (refine VS.keepAt 0 [0, 1] ?_; generalize hK : VS _ _ _ = KK; (try simp); (try subst hK); refine VS.region tabOk (id := 0) [] (by kernel_rfl) ?_; generalize hK : VS _ _ _ = KK; simp (maxSteps := 1000000) [hF]; (try subst hK); try (refine VS.keep [0, 1] ?_; generalize hK : VS _ _ _ = KK; simp; (try subst hK)))
    | (refine VS.keepAt 1 [0, 1] ?_; generalize hK : VS _ _ _ = KK; (try simp); (try subst hK); refine VS.region tabOk (id := 1) [] (by kernel_rfl) ?_; generalize hK : VS _ _ _ = KK; simp (maxSteps := 1000000) [hF]; (try subst hK); try (refine VS.keep [0, 1, 10] ?_; generalize hK : VS _ _ _ = KK; simp; (try subst hK)))
  cases ht : isT h x with
  | false =>
    have hc : ownerOf h x = (0, 1) := by simp [ownerOf, ht]
    refine (has_s1 h true x).call [(0, [])] (by simp) (by simp (maxSteps := 1000000) [hF, ht]) (by simp (maxSteps := 1000000) [hF, ht]) (by simp (maxSteps := 1000000) [hF, ht]) (by simp) ?_
    rintro av X κ ⟨rfl, rfl, rfl⟩
    generalize hK : VS _ _ _ = KK; simp (maxSteps := 1000000) [hF, ht]; (try subst hK)
    repeat first
      | refine VS.seq ?_
      | (refine VS.keepAt 2 [] ?_; generalize hK : VS _ _ _ = KK; (try simp); (try subst hK); refine VS.region tabOk (id := 2) [] (by kernel_rfl) ?_; generalize hK : VS _ _ _ = KK; simp (maxSteps := 1000000) [hF]; (try subst hK); try (refine VS.keep [4, 5] ?_; generalize hK : VS _ _ _ = KK; simp; (try subst hK)))
      | (refine VS.cond ?_; generalize hK1 : VS _ _ _ = KK1; generalize hK2 : VS _ _ _ = KK2; simp (maxSteps := 1000000) [hF]; (try subst hK1); (try subst hK2))
    try refine VS.ret ?_
    repeat first | refine blockN_ret ?_ | refine loopN_ret ?_
    refine endK.of [4, 5] [] [] (by simp [hF]) (by simp [covers, mpre]) ?_
    simp [hF, retK, hc]
  | true =>
    obtain ⟨k, rfl, hk⟩ := isT_nat ht
    have hn := dTgs_nth (o := false) hk
    have hc : ownerOf h k = (h.things[k].owner, 0) := by simp [ownerOf, ht, hk]
    refine (has_s1 h true k).call [(0, [])] (by simp) (by simp (maxSteps := 1000000) [hF, ht]) (by simp (maxSteps := 1000000) [hF, ht]) (by simp (maxSteps := 1000000) [hF, ht]) (by simp) ?_
    rintro av X κ ⟨rfl, rfl, rfl⟩
    generalize hK : VS _ _ _ = KK; simp (maxSteps := 1000000) [hF, ht]; (try subst hK)
    repeat first
      | refine VS.seq ?_
      | refine VS.skip ?_
      | (refine VS.keepAt 3 [0, 1] ?_; generalize hK : VS _ _ _ = KK; (try simp); (try subst hK); refine VS.region tabOk (id := 3) [] (by kernel_rfl) ?_; generalize hK : VS _ _ _ = KK; simp (maxSteps := 1000000) [hF, dHI, hn, hk]; (try subst hK); try (refine VS.keep [4, 5] ?_; generalize hK : VS _ _ _ = KK; simp; (try subst hK)))
      | (refine VS.cond ?_; generalize hK1 : VS _ _ _ = KK1; generalize hK2 : VS _ _ _ = KK2; simp (maxSteps := 1000000) [hF, dHI, hn, hk]; (try subst hK1); (try subst hK2))
    try refine VS.ret ?_
    repeat first | refine blockN_ret ?_ | refine loopN_ret ?_
    refine endK.of [4, 5] [] [] (by simp [hF]) (by simp [covers, mpre]) ?_
    simp [hF, retK, hc]

/- (*cabochon/isolate.House).Word -/
theorem word_ok (h : Hs) (who x : Int) : Meets Try.prog 35 [] (.cons (avH h) (.cons (avInt who) (.cons (avInt x) .nil))) fun av X κ => av = two (wordOf h who x) ∧ X = [] ∧ κ = [] := by
  refine Meets.of_vs tabOk Try.func35 (body := ?_) ?_ (by kernel_rfl) Try.ntmps35 (rs := [.tmp 6, .tmp 7]) (by kernel_rfl) rfl (by simp [AV.len]) (by simp only [envOf]; exact rfl) ?_
  rotate_left
  · rfl
  intro w0 I0 F0 hF
  repeat first
    | refine VS.seq ?_
    | (refine VS.keepAt 0 [0, 1, 2] ?_; generalize hK : VS _ _ _ = KK; (try simp); (try subst hK); refine VS.region tabOk (id := 0) [] (by kernel_rfl) ?_; generalize hK : VS _ _ _ = KK; simp (maxSteps := 1000000) [hF]; (try subst hK); try (refine VS.keep [0, 1, 2] ?_; generalize hK : VS _ _ _ = KK; simp; (try subst hK)))
    | (refine VS.keepAt 1 [0, 1, 2] ?_; generalize hK : VS _ _ _ = KK; (try simp); (try subst hK); refine VS.region tabOk (id := 1) [(4, 13)] (by kernel_rfl) ?_; generalize hK : VS _ _ _ = KK; simp (maxSteps := 1000000) [hF]; (try subst hK); try (refine VS.keep [0, 1, 2, 22] ?_; generalize hK : VS _ _ _ = KK; simp; (try subst hK)))
  cases ht : isT h x with
  | false =>
    have hak : askOf h who [x] = 1 := by simp [askOf, ht]
    have hc : wordOf h who x = (0, 1) := by simp [wordOf, ht, hak]
    refine (has_s1 h true x).call [(0, [])] (by simp) (by simp (maxSteps := 1000000) [hF, ht]) (by simp (maxSteps := 1000000) [hF, ht]) (by simp (maxSteps := 1000000) [hF, ht]) (by simp) ?_
    rintro av X κ ⟨rfl, rfl, rfl⟩
    generalize hK : VS _ _ _ = KK; simp (maxSteps := 1000000) [hF, ht]; (try subst hK)
    repeat first
      | refine VS.seq ?_
      | refine VS.skip ?_
      | (refine VS.keepAt 3 [0, 1, 2] ?_; generalize hK : VS _ _ _ = KK; (try simp); (try subst hK); refine VS.region tabOk (id := 3) [] (by kernel_rfl) ?_; generalize hK : VS _ _ _ = KK; simp (maxSteps := 1000000) [hF]; (try subst hK); try (refine VS.keep [0, 2, 8] ?_; generalize hK : VS _ _ _ = KK; simp; (try subst hK)))
      | (refine VS.cond ?_; generalize hK1 : VS _ _ _ = KK1; generalize hK2 : VS _ _ _ = KK2; simp (maxSteps := 1000000) [hF]; (try subst hK1); (try subst hK2))
    refine (ask_s1 h who true x).call [(1, [])] (by simp) (by simp (maxSteps := 1000000) [hF, hak]) (by simp (maxSteps := 1000000) [hF, hak]) (by simp (maxSteps := 1000000) [hF, hak]) (by simp) ?_
    rintro av X κ ⟨rfl, rfl, rfl⟩
    generalize hK : VS _ _ _ = KK; simp (maxSteps := 1000000) [hF, hak]; (try subst hK)
    repeat first
      | refine VS.seq ?_
      | (refine VS.keepAt 4 [0, 2, 8] ?_; generalize hK : VS _ _ _ = KK; (try simp); (try subst hK); refine VS.region tabOk (id := 4) [] (by kernel_rfl) ?_; generalize hK : VS _ _ _ = KK; simp (maxSteps := 1000000) [hF]; (try subst hK); try (refine VS.keep [0, 2, 8, 29] ?_; generalize hK : VS _ _ _ = KK; simp; (try subst hK)))
      | (refine VS.keepAt 5 [8] ?_; generalize hK : VS _ _ _ = KK; (try simp); (try subst hK); refine VS.region tabOk (id := 5) [] (by kernel_rfl) ?_; generalize hK : VS _ _ _ = KK; simp (maxSteps := 1000000) [hF]; (try subst hK); try (refine VS.keep [6, 7] ?_; generalize hK : VS _ _ _ = KK; simp; (try subst hK)))
      | (refine VS.cond ?_; generalize hK1 : VS _ _ _ = KK1; generalize hK2 : VS _ _ _ = KK2; simp (maxSteps := 1000000) [hF]; (try subst hK1); (try subst hK2))
    try refine VS.ret ?_
    repeat first | refine blockN_ret ?_ | refine loopN_ret ?_
    refine endK.of [6, 7] [] [] (by simp [hF]) (by simp [covers, mpre]) ?_
    simp [hF, retK, hc]
  | true =>
    obtain ⟨k, rfl, hk⟩ := isT_nat ht
    have hn := dTgs_nth (o := false) hk
    cases hl : h.things[k].list with
    | true =>
      have hc : wordOf h who k = (0, 1) := by simp [wordOf, ht, hk, hl]
      rw [hl] at hn
      refine (has_s1 h true k).call [(0, [])] (by simp) (by simp (maxSteps := 1000000) [hF, ht, dHI, hn, hk]) (by simp (maxSteps := 1000000) [hF, ht, dHI, hn, hk]) (by simp (maxSteps := 1000000) [hF, ht, dHI, hn, hk]) (by simp) ?_
      rintro av X κ ⟨rfl, rfl, rfl⟩
      generalize hK : VS _ _ _ = KK; simp (maxSteps := 1000000) [hF, ht, dHI, hn, hk]; (try subst hK)
      repeat first
        | refine VS.seq ?_
        | (refine VS.keepAt 2 [] ?_; generalize hK : VS _ _ _ = KK; (try simp); (try subst hK); refine VS.region tabOk (id := 2) [] (by kernel_rfl) ?_; generalize hK : VS _ _ _ = KK; simp (maxSteps := 1000000) [hF, dHI, hn, hk]; (try subst hK); try (refine VS.keep [6, 7] ?_; generalize hK : VS _ _ _ = KK; simp; (try subst hK)))
        | (refine VS.cond ?_; generalize hK1 : VS _ _ _ = KK1; generalize hK2 : VS _ _ _ = KK2; simp (maxSteps := 1000000) [hF, dHI, hn, hk]; (try subst hK1); (try subst hK2))
      try refine VS.ret ?_
      repeat first | refine blockN_ret ?_ | refine loopN_ret ?_
      refine endK.of [6, 7] [] [] (by simp [hF]) (by simp [covers, mpre]) ?_
      simp [hF, retK, hc]
    | false =>
      rw [hl] at hn
      refine (has_s1 h true k).call [(0, [])] (by simp) (by simp (maxSteps := 1000000) [hF, ht, dHI, hn, hk]) (by simp (maxSteps := 1000000) [hF, ht, dHI, hn, hk]) (by simp (maxSteps := 1000000) [hF, ht, dHI, hn, hk]) (by simp) ?_
      rintro av X κ ⟨rfl, rfl, rfl⟩
      generalize hK : VS _ _ _ = KK; simp (maxSteps := 1000000) [hF, ht, dHI, hn, hk]; (try subst hK)
      repeat first
        | refine VS.seq ?_
        | refine VS.skip ?_
        | (refine VS.keepAt 3 [0, 1, 2] ?_; generalize hK : VS _ _ _ = KK; (try simp); (try subst hK); refine VS.region tabOk (id := 3) [] (by kernel_rfl) ?_; generalize hK : VS _ _ _ = KK; simp (maxSteps := 1000000) [hF, dHI, hn, hk]; (try subst hK); try (refine VS.keep [0, 2, 8] ?_; generalize hK : VS _ _ _ = KK; simp; (try subst hK)))
        | (refine VS.cond ?_; generalize hK1 : VS _ _ _ = KK1; generalize hK2 : VS _ _ _ = KK2; simp (maxSteps := 1000000) [hF, dHI, hn, hk]; (try subst hK1); (try subst hK2))
      by_cases hz : askOf h who [(k : Int)] = 0
      · have hc : wordOf h who k = (h.things[k].word, 0) := by simp [wordOf, ht, hk, hl, hz]
        refine (ask_s1 h who true k).call [(1, [])] (by simp) (by simp (maxSteps := 1000000) [hF, hz, dHI]) (by simp (maxSteps := 1000000) [hF, hz, dHI]) (by simp (maxSteps := 1000000) [hF, hz, dHI]) (by simp) ?_
        rintro av X κ ⟨rfl, rfl, rfl⟩
        generalize hK : VS _ _ _ = KK; simp (maxSteps := 1000000) [hF, hz, dHI]; (try subst hK)
        repeat first
          | refine VS.seq ?_
          | refine VS.skip ?_
          | (refine VS.keepAt 4 [0, 2, 8] ?_; generalize hK : VS _ _ _ = KK; (try simp); (try subst hK); refine VS.region tabOk (id := 4) [] (by kernel_rfl) ?_; generalize hK : VS _ _ _ = KK; simp (maxSteps := 1000000) [hF, hz, dHI, hn, hk]; (try subst hK); try (refine VS.keep [0, 2, 8, 29] ?_; generalize hK : VS _ _ _ = KK; simp; (try subst hK)))
          | (refine VS.keepAt 6 [0, 2] ?_; generalize hK : VS _ _ _ = KK; (try simp); (try subst hK); refine VS.region tabOk (id := 6) [] (by kernel_rfl) ?_; generalize hK : VS _ _ _ = KK; simp (maxSteps := 1000000) [hF, hz, dHI, hn, hk]; (try subst hK); try (refine VS.keep [6, 7] ?_; generalize hK : VS _ _ _ = KK; simp; (try subst hK)))
          | (refine VS.cond ?_; generalize hK1 : VS _ _ _ = KK1; generalize hK2 : VS _ _ _ = KK2; simp (maxSteps := 1000000) [hF, hz, dHI, hn, hk]; (try subst hK1); (try subst hK2))
        try refine VS.ret ?_
        repeat first | refine blockN_ret ?_ | refine loopN_ret ?_
        refine endK.of [6, 7] [] [] (by simp [hF]) (by simp [covers, mpre]) ?_
        simp [hF, retK, hc]
      · have hc : wordOf h who k = (0, askOf h who [(k : Int)]) := by simp [wordOf, ht, hk, hl, hz]
        refine (ask_s1 h who true k).call [(1, [])] (by simp) (by simp (maxSteps := 1000000) [hF, hz, dHI]) (by simp (maxSteps := 1000000) [hF, hz, dHI]) (by simp (maxSteps := 1000000) [hF, hz, dHI]) (by simp) ?_
        rintro av X κ ⟨rfl, rfl, rfl⟩
        generalize hK : VS _ _ _ = KK; simp (maxSteps := 1000000) [hF, hz, dHI]; (try subst hK)
        repeat first
          | refine VS.seq ?_
          | (refine VS.keepAt 4 [0, 2, 8] ?_; generalize hK : VS _ _ _ = KK; (try simp); (try subst hK); refine VS.region tabOk (id := 4) [] (by kernel_rfl) ?_; generalize hK : VS _ _ _ = KK; simp (maxSteps := 1000000) [hF, hz, dHI, hn, hk]; (try subst hK); try (refine VS.keep [0, 2, 8, 29] ?_; generalize hK : VS _ _ _ = KK; simp; (try subst hK)))
          | (refine VS.keepAt 5 [8] ?_; generalize hK : VS _ _ _ = KK; (try simp); (try subst hK); refine VS.region tabOk (id := 5) [] (by kernel_rfl) ?_; generalize hK : VS _ _ _ = KK; simp (maxSteps := 1000000) [hF, hz, dHI, hn, hk]; (try subst hK); try (refine VS.keep [6, 7] ?_; generalize hK : VS _ _ _ = KK; simp; (try subst hK)))
          | (refine VS.cond ?_; generalize hK1 : VS _ _ _ = KK1; generalize hK2 : VS _ _ _ = KK2; simp (maxSteps := 1000000) [hF, hz, dHI, hn, hk]; (try subst hK1); (try subst hK2))
        try refine VS.ret ?_
        repeat first | refine blockN_ret ?_ | refine loopN_ret ?_
        refine endK.of [6, 7] [] [] (by simp [hF]) (by simp [covers, mpre]) ?_
        simp [hF, retK, hc]

/- (*cabochon/isolate.House).index -/
theorem hindex_ok (h : Hs) (x i : Int) : Meets Try.prog 63 [] (.cons (avH h) (.cons (avInt x) (.cons (avInt i) .nil))) fun av X κ => av = avInt (indexOf h x i) ∧ X = [] ∧ κ = [] := by
  refine Meets.of_vs tabOk Try.func63 (body := ?_) ?_ (by kernel_rfl) Try.ntmps63 (rs := [.tmp 6]) (by kernel_rfl) rfl (by simp [AV.len]) (by simp only [envOf]; exact rfl) ?_
  rotate_left
  · rfl
  intro w0 I0 F0 hF
  repeat first
    | refine VS.seq ?_
    | (refine VS.keepAt 0 [0, 1, 2] ?_; generalize hK : VS _ _ _ = KK; (try simp); (try subst hK); refine VS.region tabOk (id := 0) [] (by kernel_rfl) ?_; generalize hK : VS _ _ _ = KK; simp (maxSteps := 1000000) [hF]; (try subst hK); try (refine VS.keep [0, 1, 2] ?_; generalize hK : VS _ _ _ = KK; simp; (try subst hK)))
    | (refine VS.keepAt 1 [0, 1, 2] ?_; generalize hK : VS _ _ _ = KK; (try simp); (try subst hK); refine VS.region tabOk (id := 1) [(4, 11), (14, 21), (18, 25)] (by kernel_rfl) ?_; generalize hK : VS _ _ _ = KK; simp (maxSteps := 1000000) [hF]; (try subst hK); try (refine VS.keep [38] ?_; generalize hK : VS _ _ _ = KK; simp; (try subst hK)))
  cases ht : isT h x with
  | false =>
    have hc : indexOf h x i = 0 := by simp [indexOf, ht]
    refine (has_s1 h true x).call [(0, [])] (by simp) (by simp (maxSteps := 1000000) [hF, ht, dHI]) (by simp (maxSteps := 1000000) [hF, ht, dHI]) (by simp (maxSteps := 1000000) [hF, ht, dHI]) (by simp) ?_
    rintro av X κ ⟨rfl, rfl, rfl⟩
    generalize hK : VS _ _ _ = KK; simp (maxSteps := 1000000) [hF, ht, dHI]; (try subst hK)
    repeat first
      | refine VS.seq ?_
      | refine VS.skip ?_
      | (refine VS.keepAt 3 [] ?_; generalize hK : VS _ _ _ = KK; (try simp); (try subst hK); refine VS.region tabOk (id := 3) [] (by kernel_rfl) ?_; generalize hK : VS _ _ _ = KK; simp (maxSteps := 1000000) [hF]; (try subst hK); try (refine VS.keep [6] ?_; generalize hK : VS _ _ _ = KK; simp; (try subst hK)))
      | (refine VS.cond ?_; generalize hK1 : VS _ _ _ = KK1; generalize hK2 : VS _ _ _ = KK2; simp (maxSteps := 1000000) [hF]; (try subst hK1); (try subst hK2))
    try refine VS.ret ?_
    repeat first | refine blockN_ret ?_ | refine loopN_ret ?_
    refine endK.of [6] [] [] (by simp [hF]) (by simp [covers, mpre]) ?_
    simp [hF, retK, hc]
  | true =>
    obtain ⟨k, rfl, hk⟩ := isT_nat ht
    have hn := dTgs_nth (o := false) hk
    cases hl : h.things[k].list with
    | false =>
      have hc : indexOf h k i = 1 := by simp [indexOf, ht, hk, hl]
      rw [hl] at hn
      refine (has_s1 h true k).call [(0, [])] (by simp) (by simp (maxSteps := 1000000) [hF, ht, dHI, hn, hk]) (by simp (maxSteps := 1000000) [hF, ht, dHI, hn, hk]) (by simp (maxSteps := 1000000) [hF, ht, dHI, hn, hk]) (by simp) ?_
      rintro av X κ ⟨rfl, rfl, rfl⟩
      generalize hK : VS _ _ _ = KK; simp (maxSteps := 1000000) [hF, ht, dHI, hn, hk]; (try subst hK)
      repeat first
        | refine VS.seq ?_
        | (refine VS.keepAt 2 [] ?_; generalize hK : VS _ _ _ = KK; (try simp); (try subst hK); refine VS.region tabOk (id := 2) [] (by kernel_rfl) ?_; generalize hK : VS _ _ _ = KK; simp (maxSteps := 1000000) [hF, dHI, hn, hk]; (try subst hK); try (refine VS.keep [6] ?_; generalize hK : VS _ _ _ = KK; simp; (try subst hK)))
        | (refine VS.cond ?_; generalize hK1 : VS _ _ _ = KK1; generalize hK2 : VS _ _ _ = KK2; simp (maxSteps := 1000000) [hF, dHI, hn, hk]; (try subst hK1); (try subst hK2))
      try refine VS.ret ?_
      repeat first | refine blockN_ret ?_ | refine loopN_ret ?_
      refine endK.of [6] [] [] (by simp [hF]) (by simp [covers, mpre]) ?_
      simp [hF, retK, hc]
    | true =>
      rw [hl] at hn
      by_cases h1 : i < 0
      · have hc : indexOf h k i = 1 := by simp [indexOf, ht, hk, hl, h1]
        refine (has_s1 h true k).call [(0, [])] (by simp) (by simp (maxSteps := 1000000) [hF, ht, dHI, hn, hk, h1]) (by simp (maxSteps := 1000000) [hF, ht, dHI, hn, hk, h1]) (by simp (maxSteps := 1000000) [hF, ht, dHI, hn, hk, h1]) (by simp) ?_
        rintro av X κ ⟨rfl, rfl, rfl⟩
        generalize hK : VS _ _ _ = KK; simp (maxSteps := 1000000) [hF, ht, dHI, hn, hk, h1]; (try subst hK)
        repeat first
          | refine VS.seq ?_
          | (refine VS.keepAt 2 [] ?_; generalize hK : VS _ _ _ = KK; (try simp); (try subst hK); refine VS.region tabOk (id := 2) [] (by kernel_rfl) ?_; generalize hK : VS _ _ _ = KK; simp (maxSteps := 1000000) [hF, dHI, hn, hk, h1]; (try subst hK); try (refine VS.keep [6] ?_; generalize hK : VS _ _ _ = KK; simp; (try subst hK)))
          | (refine VS.cond ?_; generalize hK1 : VS _ _ _ = KK1; generalize hK2 : VS _ _ _ = KK2; simp (maxSteps := 1000000) [hF, dHI, hn, hk, h1]; (try subst hK1); (try subst hK2))
        try refine VS.ret ?_
        repeat first | refine blockN_ret ?_ | refine loopN_ret ?_
        refine endK.of [6] [] [] (by simp [hF]) (by simp [covers, mpre]) ?_
        simp [hF, retK, hc]
      · by_cases h2 : (h.things[k].items.length : Int) ≤ i
        · have hc : indexOf h k i = 1 := by simp [indexOf, ht, hk, hl, h1, h2]
          refine (has_s1 h true k).call [(0, [])] (by simp) (by simp (maxSteps := 1000000) [hF, ht, dHI, hn, hk, h1, h2]) (by simp (maxSteps := 1000000) [hF, ht, dHI, hn, hk, h1, h2]) (by simp (maxSteps := 1000000) [hF, ht, dHI, hn, hk, h1, h2]) (by simp) ?_
          rintro av X κ ⟨rfl, rfl, rfl⟩
          generalize hK : VS _ _ _ = KK; simp (maxSteps := 1000000) [hF, ht, dHI, hn, hk, h1, h2]; (try subst hK)
          repeat first
            | refine VS.seq ?_
            | (refine VS.keepAt 2 [] ?_; generalize hK : VS _ _ _ = KK; (try simp); (try subst hK); refine VS.region tabOk (id := 2) [] (by kernel_rfl) ?_; generalize hK : VS _ _ _ = KK; simp (maxSteps := 1000000) [hF, dHI, hn, hk, h1, h2]; (try subst hK); try (refine VS.keep [6] ?_; generalize hK : VS _ _ _ = KK; simp; (try subst hK)))
            | (refine VS.cond ?_; generalize hK1 : VS _ _ _ = KK1; generalize hK2 : VS _ _ _ = KK2; simp (maxSteps := 1000000) [hF, dHI, hn, hk, h1, h2]; (try subst hK1); (try subst hK2))
          try refine VS.ret ?_
          repeat first | refine blockN_ret ?_ | refine loopN_ret ?_
          refine endK.of [6] [] [] (by simp [hF]) (by simp [covers, mpre]) ?_
          simp [hF, retK, hc]
        · have hc : indexOf h k i = 0 := by simp [indexOf, ht, hk, hl, h1, h2]
          refine (has_s1 h true k).call [(0, [])] (by simp) (by simp (maxSteps := 1000000) [hF, ht, dHI, hn, hk, h1, h2]) (by simp (maxSteps := 1000000) [hF, ht, dHI, hn, hk, h1, h2]) (by simp (maxSteps := 1000000) [hF, ht, dHI, hn, hk, h1, h2]) (by simp) ?_
          rintro av X κ ⟨rfl, rfl, rfl⟩
          generalize hK : VS _ _ _ = KK; simp (maxSteps := 1000000) [hF, ht, dHI, hn, hk, h1, h2]; (try subst hK)
          repeat first
            | refine VS.seq ?_
            | refine VS.skip ?_
            | (refine VS.keepAt 3 [] ?_; generalize hK : VS _ _ _ = KK; (try simp); (try subst hK); refine VS.region tabOk (id := 3) [] (by kernel_rfl) ?_; generalize hK : VS _ _ _ = KK; simp (maxSteps := 1000000) [hF, dHI, hn, hk, h1, h2]; (try subst hK); try (refine VS.keep [6] ?_; generalize hK : VS _ _ _ = KK; simp; (try subst hK)))
            | (refine VS.cond ?_; generalize hK1 : VS _ _ _ = KK1; generalize hK2 : VS _ _ _ = KK2; simp (maxSteps := 1000000) [hF, dHI, hn, hk, h1, h2]; (try subst hK1); (try subst hK2))
          try refine VS.ret ?_
          repeat first | refine blockN_ret ?_ | refine loopN_ret ?_
          refine endK.of [6] [] [] (by simp [hF]) (by simp [covers, mpre]) ?_
          simp [hF, retK, hc]

/- (*cabochon/isolate.House).Get -/
theorem get_ok (h : Hs) (who x i : Int) : Meets Try.prog 22 [] (.cons (avH h) (.cons (avInt who) (.cons (avInt x) (.cons (avInt i) .nil)))) fun av X κ => av = two (getOf h who x i) ∧ X = [] ∧ κ = [] := by
  refine Meets.of_vs tabOk Try.func22 (body := ?_) ?_ (by kernel_rfl) Try.ntmps22 (rs := [.tmp 8, .tmp 9]) (by kernel_rfl) rfl (by simp [AV.len]) (by simp only [envOf]; exact rfl) ?_
  rotate_left
  · rfl
  intro w0 I0 F0 hF
  repeat first
    | refine VS.seq ?_
    | (refine VS.keepAt 0 [0, 1, 2, 3] ?_; generalize hK : VS _ _ _ = KK; (try simp); (try subst hK); refine VS.region tabOk (id := 0) [] (by kernel_rfl) ?_; generalize hK : VS _ _ _ = KK; simp (maxSteps := 1000000) [hF]; (try subst hK); try (refine VS.keep [0, 1, 2, 3] ?_; generalize hK : VS _ _ _ = KK; simp; (try subst hK)))
    | (refine VS.keepAt 1 [0, 1, 2, 3] ?_; generalize hK : VS _ _ _ = KK; (try simp); (try subst hK); refine VS.region tabOk (id := 1) [] (by kernel_rfl) ?_; generalize hK : VS _ _ _ = KK; simp (maxSteps := 1000000) [hF]; (try subst hK); try (refine VS.keep [0, 1, 2, 3, 15] ?_; generalize hK : VS _ _ _ = KK; simp; (try subst hK)))
  by_cases hi : indexOf h x i = 0
  · by_cases hz : askOf h who [x] = 0
    · have ht : isT h x = true := by
        cases ht : isT h x with
        | true => rfl
        | false => simp [askOf, ht] at hz
      obtain ⟨k, rfl, hk⟩ := isT_nat ht
      have hn := dTgs_nth (o := false) hk
      have hl : 0 ≤ i ∧ i < h.things[k].items.length := by
        simp only [indexOf, ht, gd_at hk, true_and] at hi
        split at hi
        · cases hi
        · omega
      obtain ⟨j, rfl⟩ : ∃ j : Nat, i = j := ⟨i.toNat, by omega⟩
      have hj : j < h.things[k].items.length := by omega
      have hm := dInts_nth hj
      have hc : getOf h who k j = (h.things[k].items[j], 0) := by simp [getOf, hi, hz, hk, hj]
      refine (hindex_ok h k j).call [] (by simp) (by simp (maxSteps := 1000000) [hF, hi]) (by simp (maxSteps := 1000000) [hF, hi]) (by simp (maxSteps := 1000000) [hF, hi]) (by simp) ?_
      rintro av X κ ⟨rfl, rfl, rfl⟩
      generalize hK : VS _ _ _ = KK; simp (maxSteps := 1000000) [hF, hi]; (try subst hK)
      repeat first
        | refine VS.seq ?_
        | refine VS.skip ?_
        | (refine VS.keepAt 3 [0, 1, 2, 3] ?_; generalize hK : VS _ _ _ = KK; (try simp); (try subst hK); refine VS.region tabOk (id := 3) [] (by kernel_rfl) ?_; generalize hK : VS _ _ _ = KK; simp (maxSteps := 1000000) [hF, hi]; (try subst hK); try (refine VS.keep [0, 2, 3, 10] ?_; generalize hK : VS _ _ _ = KK; simp; (try subst hK)))
        | (refine VS.cond ?_; generalize hK1 : VS _ _ _ = KK1; generalize hK2 : VS _ _ _ = KK2; simp (maxSteps := 1000000) [hF, hi]; (try subst hK1); (try subst hK2))
      refine (ask_s1 h who true k).call [(0, [])] (by simp) (by simp (maxSteps := 1000000) [hF, hz]) (by simp (maxSteps := 1000000) [hF, hz]) (by simp (maxSteps := 1000000) [hF, hz]) (by simp) ?_
      rintro av X κ ⟨rfl, rfl, rfl⟩
      generalize hK : VS _ _ _ = KK; simp (maxSteps := 1000000) [hF, hz]; (try subst hK)
      repeat first
        | refine VS.seq ?_
        | refine VS.skip ?_
        | (refine VS.keepAt 4 [0, 2, 3, 10] ?_; generalize hK : VS _ _ _ = KK; (try simp); (try subst hK); refine VS.region tabOk (id := 4) [] (by kernel_rfl) ?_; generalize hK : VS _ _ _ = KK; simp (maxSteps := 1000000) [hF, hz, dHI, hn, hk, hm, hj]; (try subst hK); try (refine VS.keep [0, 2, 3, 10, 22] ?_; generalize hK : VS _ _ _ = KK; simp; (try subst hK)))
        | (refine VS.keepAt 6 [0, 2, 3] ?_; generalize hK : VS _ _ _ = KK; (try simp); (try subst hK); refine VS.region tabOk (id := 6) [] (by kernel_rfl) ?_; generalize hK : VS _ _ _ = KK; simp (maxSteps := 1000000) [hF, hz, dHI, hn, hk, hm, hj]; (try subst hK); try (refine VS.keep [8, 9] ?_; generalize hK : VS _ _ _ = KK; simp; (try subst hK)))
        | (refine VS.cond ?_; generalize hK1 : VS _ _ _ = KK1; generalize hK2 : VS _ _ _ = KK2; simp (maxSteps := 1000000) [hF, hz, dHI, hn, hk, hm, hj]; (try subst hK1); (try subst hK2))
      try refine VS.ret ?_
      repeat first | refine blockN_ret ?_ | refine loopN_ret ?_
      refine endK.of [8, 9] [] [] (by simp [hF]) (by simp [covers, mpre]) ?_
      simp [hF, retK, hc]
    · have hc : getOf h who x i = (0, askOf h who [x]) := by simp [getOf, hi, hz]
      refine (hindex_ok h x i).call [] (by simp) (by simp (maxSteps := 1000000) [hF, hi]) (by simp (maxSteps := 1000000) [hF, hi]) (by simp (maxSteps := 1000000) [hF, hi]) (by simp) ?_
      rintro av X κ ⟨rfl, rfl, rfl⟩
      generalize hK : VS _ _ _ = KK; simp (maxSteps := 1000000) [hF, hi]; (try subst hK)
      repeat first
        | refine VS.seq ?_
        | refine VS.skip ?_
        | (refine VS.keepAt 3 [0, 1, 2, 3] ?_; generalize hK : VS _ _ _ = KK; (try simp); (try subst hK); refine VS.region tabOk (id := 3) [] (by kernel_rfl) ?_; generalize hK : VS _ _ _ = KK; simp (maxSteps := 1000000) [hF, hi]; (try subst hK); try (refine VS.keep [0, 2, 3, 10] ?_; generalize hK : VS _ _ _ = KK; simp; (try subst hK)))
        | (refine VS.cond ?_; generalize hK1 : VS _ _ _ = KK1; generalize hK2 : VS _ _ _ = KK2; simp (maxSteps := 1000000) [hF, hi]; (try subst hK1); (try subst hK2))
      refine (ask_s1 h who true x).call [(0, [])] (by simp) (by simp (maxSteps := 1000000) [hF, hz]) (by simp (maxSteps := 1000000) [hF, hz]) (by simp (maxSteps := 1000000) [hF, hz]) (by simp) ?_
      rintro av X κ ⟨rfl, rfl, rfl⟩
      generalize hK : VS _ _ _ = KK; simp (maxSteps := 1000000) [hF, hz]; (try subst hK)
      repeat first
        | refine VS.seq ?_
        | (refine VS.keepAt 4 [0, 2, 3, 10] ?_; generalize hK : VS _ _ _ = KK; (try simp); (try subst hK); refine VS.region tabOk (id := 4) [] (by kernel_rfl) ?_; generalize hK : VS _ _ _ = KK; simp (maxSteps := 1000000) [hF, hz]; (try subst hK); try (refine VS.keep [0, 2, 3, 10, 22] ?_; generalize hK : VS _ _ _ = KK; simp; (try subst hK)))
        | (refine VS.keepAt 5 [10] ?_; generalize hK : VS _ _ _ = KK; (try simp); (try subst hK); refine VS.region tabOk (id := 5) [] (by kernel_rfl) ?_; generalize hK : VS _ _ _ = KK; simp (maxSteps := 1000000) [hF, hz]; (try subst hK); try (refine VS.keep [8, 9] ?_; generalize hK : VS _ _ _ = KK; simp; (try subst hK)))
        | (refine VS.cond ?_; generalize hK1 : VS _ _ _ = KK1; generalize hK2 : VS _ _ _ = KK2; simp (maxSteps := 1000000) [hF, hz]; (try subst hK1); (try subst hK2))
      try refine VS.ret ?_
      repeat first | refine blockN_ret ?_ | refine loopN_ret ?_
      refine endK.of [8, 9] [] [] (by simp [hF]) (by simp [covers, mpre]) ?_
      simp [hF, retK, hc]
  · have hc : getOf h who x i = (0, 1) := by simp [getOf, hi]
    refine (hindex_ok h x i).call [] (by simp) (by simp (maxSteps := 1000000) [hF, hi]) (by simp (maxSteps := 1000000) [hF, hi]) (by simp (maxSteps := 1000000) [hF, hi]) (by simp) ?_
    rintro av X κ ⟨rfl, rfl, rfl⟩
    generalize hK : VS _ _ _ = KK; simp (maxSteps := 1000000) [hF, hi]; (try subst hK)
    repeat first
      | refine VS.seq ?_
      | (refine VS.keepAt 2 [] ?_; generalize hK : VS _ _ _ = KK; (try simp); (try subst hK); refine VS.region tabOk (id := 2) [] (by kernel_rfl) ?_; generalize hK : VS _ _ _ = KK; simp (maxSteps := 1000000) [hF, hi]; (try subst hK); try (refine VS.keep [8, 9] ?_; generalize hK : VS _ _ _ = KK; simp; (try subst hK)))
      | (refine VS.cond ?_; generalize hK1 : VS _ _ _ = KK1; generalize hK2 : VS _ _ _ = KK2; simp (maxSteps := 1000000) [hF, hi]; (try subst hK1); (try subst hK2))
    try refine VS.ret ?_
    repeat first | refine blockN_ret ?_ | refine loopN_ret ?_
    refine endK.of [8, 9] [] [] (by simp [hF]) (by simp [covers, mpre]) ?_
    simp [hF, retK, hc]

/- (*cabochon/isolate.House).Len -/
theorem len_ok (h : Hs) : Meets Try.prog 21 [] (.cons (avH h) .nil) fun av X κ => av = avInt h.things.length ∧ X = [] ∧ κ = [] := by
  refine Meets.of_vs tabOk Try.func21 (body := ?_) ?_ (by kernel_rfl) Try.ntmps21 (rs := [.tmp 2]) (by kernel_rfl) rfl (by simp [AV.len]) (by simp only [envOf]; exact rfl) ?_
  rotate_left
  · rfl
  intro w0 I0 F0 hF
  repeat first
    | refine VS.seq ?_
    | refine VS.skip ?_
    | (refine VS.keepAt 0 [0] ?_; generalize hK : VS _ _ _ = KK; (try simp); (try subst hK); refine VS.region tabOk (id := 0) [] (by kernel_rfl) ?_; generalize hK : VS _ _ _ = KK; simp (maxSteps := 1000000) [hF, dHI]; (try subst hK); try (refine VS.keep [0] ?_; generalize hK : VS _ _ _ = KK; simp; (try subst hK)))
    | (refine VS.keepAt 1 [0] ?_; generalize hK : VS _ _ _ = KK; (try simp); (try subst hK); refine VS.region tabOk (id := 1) [] (by kernel_rfl) ?_; generalize hK : VS _ _ _ = KK; simp (maxSteps := 1000000) [hF, dHI]; (try subst hK); try (refine VS.keep [0, 4] ?_; generalize hK : VS _ _ _ = KK; simp; (try subst hK)))
    | (refine VS.keepAt 3 [0] ?_; generalize hK : VS _ _ _ = KK; (try simp); (try subst hK); refine VS.region tabOk (id := 3) [] (by kernel_rfl) ?_; generalize hK : VS _ _ _ = KK; simp (maxSteps := 1000000) [hF, dHI]; (try subst hK); try (refine VS.keep [2] ?_; generalize hK : VS _ _ _ = KK; simp; (try subst hK)))
    | (refine VS.cond ?_; generalize hK1 : VS _ _ _ = KK1; generalize hK2 : VS _ _ _ = KK2; simp (maxSteps := 1000000) [hF, dHI]; (try subst hK1); (try subst hK2))
  try refine VS.ret ?_
  repeat first | refine blockN_ret ?_ | refine loopN_ret ?_
  refine endK.of [2] [] [] (by simp [hF]) (by simp [covers, mpre]) ?_
  simp [hF, retK]
end Go.Proofs.Ytkkbcpcihadkhaa

/- slices.DeleteFunc of numbers. -/
namespace Go.Proofs.Ytkkbcpcihadkhaa
set_option linter.all false
open Go.Vc Go.Proofs
set_option linter.unusedSimpArgs false
set_option linter.unusedVariables false
set_option maxRecDepth 100000
set_option maxHeartbeats 4000000
attribute [local irreducible] CallW EqK

theorem set_mid {kp mid r : List Int} {v : Int} (h : 0 < mid.length) : (kp ++ (mid ++ r)).set kp.length v = kp ++ v :: (mid.tail ++ r) := by
  cases mid with
  | nil => simp at h
  | cons a l => simp
theorem ixF_some {p : Int → Bool} {l : List Int} (h : l.any p = true) : ∃ i, ∃ hi : i < l.length, ixF p l = i ∧ p l[i] = true ∧ ∀ j, (hj : j < i) → p (l[j]'(by omega)) = false := by
  obtain ⟨x, hx, hp⟩ := List.any_eq_true.1 h
  have hi : l.findIdx p < l.length := List.findIdx_lt_length_of_exists ⟨x, hx, hp⟩
  refine ⟨l.findIdx p, hi, by rw [ixF, if_pos h], List.findIdx_getElem (w := hi), fun j hj => ?_⟩
  have := List.not_of_lt_findIdx hj
  simpa using this

/- slices.IndexFunc[[]int,int] -/
theorem indexFunc_os (ex : Bool) (ls : List Int) (hs : Hs) (hl : ls.length ≤ 100000000) (p : Int → Bool)
    (hg : ∀ i, (h : i < ls.length) → Meets Try.prog 82 [dHB hs] (.cons (avInt ls[i]) (.cons (.ptr 0 [.d]) .nil)) fun av X κ => av = avBool (p ls[i]) ∧ X = [dHB hs] ∧ κ = []) :
    Meets Try.prog 99 [.sl true () 1 (dInts ls), dHB hs] (.cons (.sub 0 [] 0 ls.length ex) (.cons (.fn 82 (.cons (.ptr 1 [.d]) .nil)) .nil))
    fun av X κ => av = avInt (ixF p ls) ∧ X = [.sl true () 1 (dInts ls), dHB hs] ∧ κ = [] := by
  refine Meets.of_vs tabOk Try.func99 (body := ?_) ?_ (by kernel_rfl) Try.ntmps99 (rs := [.tmp 4]) (by kernel_rfl) rfl (by simp [AV.len]) (by simp only [envOf]; exact rfl) ?_
  rotate_left
  · rfl
  intro w0 I0 F0 hF
  repeat first
    | refine VS.seq ?_
    | refine VS.block ?_
    | (refine VS.keepAt 0 [0, 1] ?_; generalize hK : VS _ _ _ = KK; (try simp); (try subst hK); refine VS.region tabOk (id := 0) [] (by kernel_rfl) ?_; generalize hK : VS _ _ _ = KK; simp (maxSteps := 1000000) [hF, dHB]; (try subst hK); try (refine VS.keep [0, 1] ?_; generalize hK : VS _ _ _ = KK; simp; (try subst hK)))
    | (refine VS.keepAt 1 [0, 1] ?_; generalize hK : VS _ _ _ = KK; (try simp); (try subst hK); refine VS.region tabOk (id := 1) [] (by kernel_rfl) ?_; generalize hK : VS _ _ _ = KK; simp (maxSteps := 1000000) [hF, dHB]; (try subst hK); try (refine VS.keep [0, 1, 7, 8] ?_; generalize hK : VS _ _ _ = KK; simp; (try subst hK)))
  refine VS.rounds (fun m st => ∃ (i : Nat), i + m = ls.length ∧ (∀ j, (h : j < ls.length) → j < i → p ls[j] = false) ∧ st = ⟨[(0, .sub 0 [] 0 ls.length ex), (1, .fn 82 (.cons (.ptr 1 [.d]) .nil)), (7, avInt ls.length), (8, avInt i)], [.sl true () 1 (dInts ls), dHB hs], [], []⟩) ⟨ls.length, 0, by omega, by omega, by simp [dHB]⟩ ?_
  rintro m st ⟨i, hi, hall, rfl⟩
  repeat first
    | refine VS.seq ?_
    | (refine VS.keepAt 2 [0, 1, 7, 8] ?_; generalize hK : VS _ _ _ = KK; (try simp); (try subst hK); refine VS.region tabOk (id := 2) [] (by kernel_rfl) ?_; generalize hK : VS _ _ _ = KK; simp (maxSteps := 1000000) [hF, dHB]; (try subst hK); try (refine VS.keep [0, 1, 7, 8, 9] ?_; generalize hK : VS _ _ _ = KK; simp; (try subst hK)))
    | (refine VS.cond ?_; generalize hK1 : VS _ _ _ = KK1; generalize hK2 : VS _ _ _ = KK2; simp (maxSteps := 1000000) [hF, dHB]; (try subst hK1); (try subst hK2))
  refine ⟨fun hlt => ?_, fun hge => ?_⟩
  · have hi' : i < ls.length := by omega
    have hn := dInts_nth hi'
    repeat first
      | refine VS.seq ?_
      | refine VS.skip ?_
      | refine VS.block ?_
      | (refine VS.keepAt 3 [0, 1, 7, 8] ?_; generalize hK : VS _ _ _ = KK; (try simp); (try subst hK); refine VS.region tabOk (id := 3) [] (by kernel_rfl) ?_; generalize hK : VS _ _ _ = KK; simp (maxSteps := 1000000) [hF, dHB, hn, hi']; (try subst hK); try (refine VS.keep [0, 1, 5, 7, 8] ?_; generalize hK : VS _ _ _ = KK; simp; (try subst hK)))
      | (refine VS.keepAt 4 [0, 1, 5, 7, 8] ?_; generalize hK : VS _ _ _ = KK; (try simp); (try subst hK); refine VS.region tabOk (id := 4) [] (by kernel_rfl) ?_; generalize hK : VS _ _ _ = KK; simp (maxSteps := 1000000) [hF, dHB, hn, hi']; (try subst hK); try (refine VS.keep [0, 1, 5, 7, 8, 16] ?_; generalize hK : VS _ _ _ = KK; simp; (try subst hK)))
    refine (hg i hi').call [(1, [])] (by simp) (by simp (maxSteps := 1000000) [hF, dHB]) (by simp (maxSteps := 1000000) [hF, dHB]) (by simp (maxSteps := 1000000) [hF, dHB]) (by simp) ?_
    rintro av X κ ⟨rfl, rfl, rfl⟩
    generalize hK : VS _ _ _ = KK; simp (maxSteps := 1000000) [hF, dHB]; (try subst hK)
    cases hp : p ls[i] with
    | true =>
      have hr : ixF p ls = i := ixF_hit hi' (fun j h => hall j (by omega) h) hp
      repeat first
        | refine VS.seq ?_
        | (refine VS.keepAt 5 [5] ?_; generalize hK : VS _ _ _ = KK; (try simp); (try subst hK); refine VS.region tabOk (id := 5) [] (by kernel_rfl) ?_; generalize hK : VS _ _ _ = KK; simp (maxSteps := 1000000) [hF, hp]; (try subst hK); try (refine VS.keep [4] ?_; generalize hK : VS _ _ _ = KK; simp; (try subst hK)))
        | (refine VS.cond ?_; generalize hK1 : VS _ _ _ = KK1; generalize hK2 : VS _ _ _ = KK2; simp (maxSteps := 1000000) [hF, hp]; (try subst hK1); (try subst hK2))
      try refine VS.ret ?_
      repeat first | refine blockN_ret ?_ | refine loopN_ret ?_
      refine endK.of [4] [0, 1] [] (by simp [hF]) (by simp [covers, mpre]) ?_
      simp [hF, retK, dHB, hr]
    | false =>
      repeat first
        | refine VS.skip ?_
        | refine VS.nil ?_
        | refine blockN_normal ?_
        | refine loopN_normal ?_
        | (refine VS.keepAt 6 [0, 1, 7, 8] ?_; generalize hK : VS _ _ _ = KK; (try simp); (try subst hK); refine VS.region tabOk (id := 6) [] (by kernel_rfl) ?_; generalize hK : VS _ _ _ = KK; simp (maxSteps := 1000000) [hF, hp]; (try subst hK); try (refine VS.keep [0, 1, 7, 8] ?_; generalize hK : VS _ _ _ = KK; simp; (try subst hK)))
        | (refine VS.cond ?_; generalize hK1 : VS _ _ _ = KK1; generalize hK2 : VS _ _ _ = KK2; simp (maxSteps := 1000000) [hF, hp]; (try subst hK1); (try subst hK2))
      refine nextK.of [0, 1, 7, 8] [0, 1] (m - 1) (by omega) (by simp [hF]) ?_
      refine ⟨i + 1, by omega, ?_, ?_⟩
      · intro j hj hji
        rcases Nat.lt_or_ge j i with h' | h'
        · exact hall j hj h'
        · obtain rfl : j = i := by omega
          exact hp
      · simp [dHB]
        exact IntWalk.i64_in _ (by omega)
  · have hr : ixF p ls = -1 := ixF_miss (fun j h => hall j h (by omega))
    repeat first
      | refine VS.seq ?_
      | refine VS.exit ?_
      | (refine VS.keepAt 7 [] ?_; generalize hK : VS _ _ _ = KK; (try simp); (try subst hK); refine VS.region tabOk (id := 7) [] (by kernel_rfl) ?_; generalize hK : VS _ _ _ = KK; simp (maxSteps := 1000000) [hF]; (try subst hK); try (refine VS.keep [4] ?_; generalize hK : VS _ _ _ = KK; simp; (try subst hK)))
    try refine VS.ret ?_
    repeat first | refine blockN_ret ?_ | refine loopN_ret ?_
    refine endK.of [4] [0, 1] [] (by simp [hF]) (by simp [covers, mpre]) ?_
    simp [hF, retK, dHB, hr]

/- slices.DeleteFunc[[]int,int] -/
theorem deleteFunc_os (ex : Bool) (ls : List Int) (hs : Hs) (hl : ls.length ≤ 100000000) (p : Int → Bool)
    (hg : ∀ i, (h : i < ls.length) → Meets Try.prog 82 [dHB hs] (.cons (avInt ls[i]) (.cons (.ptr 0 [.d]) .nil)) fun av X κ => av = avBool (p ls[i]) ∧ X = [dHB hs] ∧ κ = []) :
    Meets Try.prog 81 [.sl true () 1 (dInts ls), dHB hs] (.cons (.sub 0 [] 0 ls.length ex) (.cons (.fn 82 (.cons (.ptr 1 [.d]) .nil)) .nil))
    fun av X κ => ∃ e z, (ex = false → e = false) ∧ av = .sub 0 [] 0 (ls.filter fun x => !p x).length e ∧ X = [.sl true () 1 (dInts ((ls.filter fun x => !p x) ++ z)), dHB hs] ∧ κ = [(0, [.i 0])] := by
  refine Meets.of_vs tabOk Try.func81 (body := ?_) ?_ (by kernel_rfl) Try.ntmps81 (rs := [.tmp 4]) (by kernel_rfl) rfl (by simp [AV.len]) (by simp only [envOf]; exact rfl) ?_
  rotate_left
  · rfl
  intro w0 I0 F0 hF
  repeat first
    | refine VS.seq ?_
    | (refine VS.keepAt 0 [0, 1] ?_; generalize hK : VS _ _ _ = KK; (try simp); (try subst hK); refine VS.region tabOk (id := 0) [] (by kernel_rfl) ?_; generalize hK : VS _ _ _ = KK; simp (maxSteps := 1000000) [hF, dHB]; (try subst hK); try (refine VS.keep [0, 1] ?_; generalize hK : VS _ _ _ = KK; simp; (try subst hK)))
    | (refine VS.keepAt 1 [0, 1] ?_; generalize hK : VS _ _ _ = KK; (try simp); (try subst hK); refine VS.region tabOk (id := 1) [] (by kernel_rfl) ?_; generalize hK : VS _ _ _ = KK; simp (maxSteps := 1000000) [hF, dHB]; (try subst hK); try (refine VS.keep [0, 1, 5] ?_; generalize hK : VS _ _ _ = KK; simp; (try subst hK)))
  refine (indexFunc_os ex ls hs hl p hg).call [(0, []), (1, [])] (by simp) (by simp (maxSteps := 1000000) [hF, dHB]) (by simp (maxSteps := 1000000) [hF, dHB]) (by simp (maxSteps := 1000000) [hF, dHB]) (by simp) ?_
  rintro av X κ ⟨rfl, rfl, rfl⟩
  generalize hK : VS _ _ _ = KK; simp (maxSteps := 1000000) [hF, dHB]; (try subst hK)
  by_cases ha : ls.any p = true
  · obtain ⟨i, hi, hix, hpi, hpre⟩ := ixF_some ha
    have hw : IntKind.i64.wrap ((i : Int) + 1) = (i + 1 : Nat) := by rw [IntWalk.i64_in _ (by omega)]; rfl
    have hti : (ls.take (i + 1)).filter (fun x => !p x) = ls.take i := by
      rw [List.take_add_one, List.filter_append, List.getElem?_eq_getElem hi]
      rw [List.filter_eq_self.2 fun x hx => by
        obtain ⟨j, hj, rfl⟩ := List.mem_take_iff_getElem.1 hx
        simpa using hpre j (by omega)]
      simp [hpi]
    repeat first
      | refine VS.seq ?_
      | refine VS.skip ?_
      | refine VS.block ?_
      | (refine VS.keepAt 2 [0, 1, 5] ?_; generalize hK : VS _ _ _ = KK; (try simp); (try subst hK); refine VS.region tabOk (id := 2) [] (by kernel_rfl) ?_; generalize hK : VS _ _ _ = KK; simp (maxSteps := 1000000) [hF, hix, hw]; (try subst hK); try (refine VS.keep [0, 1, 5, 12] ?_; generalize hK : VS _ _ _ = KK; simp; (try subst hK)))
      | (refine VS.keepAt 4 [0, 1, 5] ?_; generalize hK : VS _ _ _ = KK; (try simp); (try subst hK); refine VS.region tabOk (id := 4) [] (by kernel_rfl) ?_; generalize hK : VS _ _ _ = KK; simp (maxSteps := 1000000) [hF, hix, hw]; (try subst hK); try (refine VS.keep [0, 1, 5, 6] ?_; generalize hK : VS _ _ _ = KK; simp; (try subst hK)))
      | (refine VS.cond ?_; generalize hK1 : VS _ _ _ = KK1; generalize hK2 : VS _ _ _ = KK2; simp (maxSteps := 1000000) [hF, hix, hw]; (try subst hK1); (try subst hK2))
    refine VS.rounds (fun m st => ∃ (j : Nat) (mid : List Int), j + m = ls.length ∧ ((ls.take j).filter fun x => !p x).length + mid.length = j ∧ 0 < mid.length ∧ st = ⟨[(0, .sub 0 [] 0 ls.length ex), (1, .fn 82 (.cons (.ptr 1 [.d]) .nil)), (5, avInt ((ls.take j).filter fun x => !p x).length), (6, avInt j)], [.sl true () 1 (dInts (((ls.take j).filter fun x => !p x) ++ mid ++ ls.drop j)), dHB hs], [], []⟩) ⟨ls.length - (i + 1), i + 1, [ls[i]], by omega, by rw [hti]; simp; omega, by simp, by
      rw [hti]
      have e : ls.take i ++ [ls[i]] ++ ls.drop (i + 1) = ls := by simp
      rw [e]
      simp [Nat.min_eq_left (Nat.le_of_lt hi), dHB, ]⟩ ?_
    rintro m st ⟨j, mid, hj, hk, hmd, rfl⟩
    repeat first
      | refine VS.seq ?_
      | (refine VS.keepAt 5 [0, 1, 5, 6] ?_; generalize hK : VS _ _ _ = KK; (try simp); (try subst hK); refine VS.region tabOk (id := 5) [] (by kernel_rfl) ?_; generalize hK : VS _ _ _ = KK; simp (maxSteps := 1000000) [hF, dHB]; (try subst hK); try (refine VS.keep [0, 1, 5, 6, 19] ?_; generalize hK : VS _ _ _ = KK; simp; (try subst hK)))
      | (refine VS.cond ?_; generalize hK1 : VS _ _ _ = KK1; generalize hK2 : VS _ _ _ = KK2; simp (maxSteps := 1000000) [hF, dHB]; (try subst hK1); (try subst hK2))
    refine ⟨fun hlt => ?_, fun hge => ?_⟩
    · have hn : (dInts (((ls.take j).filter fun x => !p x) ++ (mid ++ ls.drop j))).nth j = .val (.int .i64 ls[j]) := by
        rw [dInts_nth (by simp; omega)]
        have : (((ls.take j).filter fun x => !p x) ++ (mid ++ ls.drop j))[j]? = some ls[j] := by
          rw [List.getElem?_append_right (by omega), List.getElem?_append_right (by omega), List.getElem?_drop, List.getElem?_eq_getElem (by omega)]
          congr 2; omega
        rw [(List.getElem_eq_iff _).2 this]
      have hw1 : IntKind.i64.wrap ((j : Int) + 1) = (j + 1 : Nat) := by rw [IntWalk.i64_in _ (by omega)]; rfl
      have ht1 : ls.take (j + 1) = ls.take j ++ [ls[j]] := by rw [List.take_add_one, List.getElem?_eq_getElem hlt]; rfl
      have hd1 : ls.drop j = ls[j] :: ls.drop (j + 1) := List.drop_eq_getElem_cons hlt
      repeat first
        | refine VS.seq ?_
        | refine VS.skip ?_
        | refine VS.block ?_
        | (refine VS.keepAt 7 [0, 1, 5, 6] ?_; generalize hK : VS _ _ _ = KK; (try simp); (try subst hK); refine VS.region tabOk (id := 7) [] (by kernel_rfl) ?_; generalize hK : VS _ _ _ = KK; simp (maxSteps := 1000000) [hF, dHB, hn, hlt]; (try subst hK); try (refine VS.keep [0, 1, 5, 6, 7] ?_; generalize hK : VS _ _ _ = KK; simp; (try subst hK)))
        | (refine VS.keepAt 8 [0, 1, 5, 6, 7] ?_; generalize hK : VS _ _ _ = KK; (try simp); (try subst hK); refine VS.region tabOk (id := 8) [] (by kernel_rfl) ?_; generalize hK : VS _ _ _ = KK; simp (maxSteps := 1000000) [hF, dHB, hn, hlt]; (try subst hK); try (refine VS.keep [0, 1, 5, 6, 7, 29] ?_; generalize hK : VS _ _ _ = KK; simp; (try subst hK)))
      refine (hg j hlt).call [(1, [])] (by simp) (by simp (maxSteps := 1000000) [hF, dHB]) (by simp (maxSteps := 1000000) [hF, dHB]) (by simp (maxSteps := 1000000) [hF, dHB]) (by simp) ?_
      rintro av X κ ⟨rfl, rfl, rfl⟩
      generalize hK : VS _ _ _ = KK; simp (maxSteps := 1000000) [hF, dHB]; (try subst hK)
      cases hp : p ls[j] with
      | true =>
        have hf1 : (ls.take (j + 1)).filter (fun x => !p x) = (ls.take j).filter (fun x => !p x) := by rw [ht1, List.filter_append]; simp [hp]
        repeat first
          | refine VS.skip ?_
          | refine VS.nil ?_
          | refine blockN_normal ?_
          | refine loopN_normal ?_
          | (refine VS.keepAt 6 [0, 1, 5, 6] ?_; generalize hK : VS _ _ _ = KK; (try simp); (try subst hK); refine VS.region tabOk (id := 6) [] (by kernel_rfl) ?_; generalize hK : VS _ _ _ = KK; simp (maxSteps := 1000000) [hF, hp, hw1]; (try subst hK); try (refine VS.keep [0, 1, 5, 6] ?_; generalize hK : VS _ _ _ = KK; simp; (try subst hK)))
          | (refine VS.cond ?_; generalize hK1 : VS _ _ _ = KK1; generalize hK2 : VS _ _ _ = KK2; simp (maxSteps := 1000000) [hF, hp, hw1]; (try subst hK1); (try subst hK2))
        refine nextK.of [0, 1, 5, 6] [0, 1] (m - 1) (by omega) (by simp [hF]) ?_
        refine ⟨j + 1, mid ++ [ls[j]], by omega, by rw [hf1]; simp; omega, by simp, ?_⟩
        rw [hf1, hd1]
        simp [dHB]
      | false =>
        have hf1 : (ls.take (j + 1)).filter (fun x => !p x) = (ls.take j).filter (fun x => !p x) ++ [ls[j]] := by rw [ht1, List.filter_append]; simp [hp]
        have hw2 : IntKind.i64.wrap ((((ls.take j).filter fun x => !p x).length : Int) + 1) = (((ls.take j).filter fun x => !p x).length + 1 : Nat) := by rw [IntWalk.i64_in _ (by omega)]; rfl
        have hkl : ((ls.take j).filter fun x => !p x).length < ls.length := by omega
        have hset : (dInts (((ls.take j).filter fun x => !p x) ++ (mid ++ ls.drop j))).setN ((ls.take j).filter fun x => !p x).length (.val (.int .i64 ls[j])) = dInts (((ls.take j).filter fun x => !p x) ++ (ls[j] :: (mid.tail ++ ls.drop j))) := by
          rw [dInts_set, set_mid hmd]
        obtain ⟨v0, hnk⟩ : ∃ v0, (dInts (((ls.take j).filter fun x => !p x) ++ (mid ++ ls.drop j))).nth ((ls.take j).filter fun x => !p x).length = .val (.int .i64 v0) := ⟨_, dInts_nth (by simp; omega)⟩
        have hpos : 0 < mid.length + (ls.length - j) := by omega
        repeat first
          | refine VS.seq ?_
          | refine VS.nil ?_
          | refine blockN_normal ?_
          | refine loopN_normal ?_
          | (refine VS.keepAt 6 [0, 1, 5, 6] ?_; generalize hK : VS _ _ _ = KK; (try simp); (try subst hK); refine VS.region tabOk (id := 6) [] (by kernel_rfl) ?_; generalize hK : VS _ _ _ = KK; simp (maxSteps := 1000000) [hF, hp, hw1, hw2, hkl, hset, hnk, hpos]; (try subst hK); try (refine VS.keep [0, 1, 5, 6] ?_; generalize hK : VS _ _ _ = KK; simp; (try subst hK)))
          | (refine VS.keepAt 9 [0, 1, 5, 6, 7] ?_; generalize hK : VS _ _ _ = KK; (try simp); (try subst hK); refine VS.region tabOk (id := 9) [] (by kernel_rfl) ?_; generalize hK : VS _ _ _ = KK; simp (maxSteps := 1000000) [hF, hp, hw1, hw2, hkl, hset, hnk, hpos]; (try subst hK); try (refine VS.keep [0, 1, 5, 6] ?_; generalize hK : VS _ _ _ = KK; simp; (try subst hK)))
          | (refine VS.keepAt 10 [0, 1, 5, 6] ?_; generalize hK : VS _ _ _ = KK; (try simp); (try subst hK); refine VS.region tabOk (id := 10) [] (by kernel_rfl) ?_; generalize hK : VS _ _ _ = KK; simp (maxSteps := 1000000) [hF, hp, hw1, hw2, hkl, hset, hnk, hpos]; (try subst hK); try (refine VS.keep [0, 1, 5, 6] ?_; generalize hK : VS _ _ _ = KK; simp; (try subst hK)))
          | (refine VS.cond ?_; generalize hK1 : VS _ _ _ = KK1; generalize hK2 : VS _ _ _ = KK2; simp (maxSteps := 1000000) [hF, hp, hw1, hw2, hkl, hset, hnk, hpos]; (try subst hK1); (try subst hK2))
        refine nextK.of [0, 1, 5, 6] [0, 1] (m - 1) (by omega) (by simp [hF]) ?_
        refine ⟨j + 1, mid.tail ++ [ls[j]], by omega, by rw [hf1]; simp; omega, by simp, ?_⟩
        rw [hf1, hd1]
        simp [dHB]
    · have hjl : j = ls.length := by omega
      subst hjl
      rw [List.take_of_length_le (Nat.le_refl _)] at hk
      simp only [List.take_of_length_le (Nat.le_refl _), List.drop_of_length_le (Nat.le_refl _)] 
      have hkl : (ls.filter fun x => !p x).length ≤ ls.length := by omega
      have htk : ((dInts ((ls.filter fun x => !p x) ++ mid)).take (ls.filter fun x => !p x).length).app (sq (List.replicate (ls.length - (ls.filter fun x => !p x).length) (.val (.int .i64 0)))) = dInts ((ls.filter fun x => !p x) ++ List.replicate (ls.length - (ls.filter fun x => !p x).length) 0) := by
        have e : (dInts ((ls.filter fun x => !p x) ++ mid)).take (ls.filter fun x => !p x).length = dInts (ls.filter fun x => !p x) := by
          have := dInts_mid ((ls.filter fun x => !p x) ++ mid) 0 (ls.filter fun x => !p x).length
          simpa [T.mid, T.drop] using this
        have e2 : (sq (List.replicate (ls.length - (ls.filter fun x => !p x).length) (.val (.int .i64 0))) : D) = dInts (List.replicate (ls.length - (ls.filter fun x => !p x).length) 0) := by simp [dInts, dInt]
        rw [e, e2, dInts_app]
      repeat first
        | refine VS.seq ?_
        | refine VS.exit ?_
        | (refine VS.keepAt 11 [0, 5] ?_; generalize hK : VS _ _ _ = KK; (try simp); (try subst hK); refine VS.region tabOk (id := 11) [] (by kernel_rfl) ?_; generalize hK : VS _ _ _ = KK; simp (maxSteps := 1000000) [hF, hkl, hk, htk]; (try subst hK); try (refine VS.keep [0, 5] ?_; generalize hK : VS _ _ _ = KK; simp; (try subst hK)))
        | (refine VS.keepAt 12 [0, 5] ?_; generalize hK : VS _ _ _ = KK; (try simp); (try subst hK); refine VS.region tabOk (id := 12) [] (by kernel_rfl) ?_; generalize hK : VS _ _ _ = KK; simp (maxSteps := 1000000) [hF, hkl, hk, htk]; (try subst hK); try (refine VS.keep [4] ?_; generalize hK : VS _ _ _ = KK; simp; (try subst hK)))
      try refine VS.ret ?_
      repeat first | refine blockN_ret ?_ | refine loopN_ret ?_
      refine endK.of [4] [0, 1] [(0, [.i 0])] (by simp [hF]) (by simp [covers, mpre]) ?_
      simp [hF, retK, dHB, htk]
      exact ⟨_, rfl⟩
  · have hix : ixF p ls = -1 := by rw [ixF, if_neg ha]
    have hfi : (ls.filter fun x => !p x) = ls := List.filter_eq_self.2 fun x hx => by
      cases hp : p x with
      | false => rfl
      | true => exact absurd (List.any_eq_true.2 ⟨x, hx, hp⟩) ha
    repeat first
      | refine VS.seq ?_
      | (refine VS.keepAt 2 [0, 1, 5] ?_; generalize hK : VS _ _ _ = KK; (try simp); (try subst hK); refine VS.region tabOk (id := 2) [] (by kernel_rfl) ?_; generalize hK : VS _ _ _ = KK; simp (maxSteps := 1000000) [hF, hix]; (try subst hK); try (refine VS.keep [0, 1, 5, 12] ?_; generalize hK : VS _ _ _ = KK; simp; (try subst hK)))
      | (refine VS.keepAt 3 [0] ?_; generalize hK : VS _ _ _ = KK; (try simp); (try subst hK); refine VS.region tabOk (id := 3) [] (by kernel_rfl) ?_; generalize hK : VS _ _ _ = KK; simp (maxSteps := 1000000) [hF, hix]; (try subst hK); try (refine VS.keep [4] ?_; generalize hK : VS _ _ _ = KK; simp; (try subst hK)))
      | (refine VS.cond ?_; generalize hK1 : VS _ _ _ = KK1; generalize hK2 : VS _ _ _ = KK2; simp (maxSteps := 1000000) [hF, hix]; (try subst hK1); (try subst hK2))
    refine VS.widen [(0, [.i 0])] (by simp [covers, mpre]) ?_
    try refine VS.ret ?_
    repeat first | refine blockN_ret ?_ | refine loopN_ret ?_
    refine endK.of [4] [0, 1] [(0, [.i 0])] (by simp [hF]) (by simp [covers, mpre]) ?_
    simp [hF, retK, dHB, hfi]
    cases ex with
    | false => exact .inl ⟨rfl, [], by simp⟩
    | true => exact .inr ⟨rfl, [], by simp⟩

/- slices.IndexFunc[[]int,int] -/
theorem indexFunc_ds (ex : Bool) (ls : List Int) (hl : ls.length ≤ 100000000) (p : Int → Bool)
    (hg : ∀ i, (h : i < ls.length) → Meets Try.prog 97 [] (.cons (avInt ls[i]) .nil) fun av X κ => av = avBool (p ls[i]) ∧ X = [] ∧ κ = []) :
    Meets Try.prog 99 [.sl true () 1 (dInts ls)] (.cons (.sub 0 [] 0 ls.length ex) (.cons (.fn 97 .nil) .nil))
    fun av X κ => av = avInt (ixF p ls) ∧ X = [.sl true () 1 (dInts ls)] ∧ κ = [] := by
  refine Meets.of_vs tabOk Try.func99 (body := ?_) ?_ (by kernel_rfl) Try.ntmps99 (rs := [.tmp 4]) (by kernel_rfl) rfl (by simp [AV.len]) (by simp only [envOf]; exact rfl) ?_
  rotate_left
  · rfl
  intro w0 I0 F0 hF
  repeat first
    | refine VS.seq ?_
    | refine VS.block ?_
    | (refine VS.keepAt 0 [0, 1] ?_; generalize hK : VS _ _ _ = KK; (try simp); (try subst hK); refine VS.region tabOk (id := 0) [] (by kernel_rfl) ?_; generalize hK : VS _ _ _ = KK; simp (maxSteps := 1000000) [hF]; (try subst hK); try (refine VS.keep [0, 1] ?_; generalize hK : VS _ _ _ = KK; simp; (try subst hK)))
    | (refine VS.keepAt 1 [0, 1] ?_; generalize hK : VS _ _ _ = KK; (try simp); (try subst hK); refine VS.region tabOk (id := 1) [] (by kernel_rfl) ?_; generalize hK : VS _ _ _ = KK; simp (maxSteps := 1000000) [hF]; (try subst hK); try (refine VS.keep [0, 1, 7, 8] ?_; generalize hK : VS _ _ _ = KK; simp; (try subst hK)))
  refine VS.rounds (fun m st => ∃ (i : Nat), i + m = ls.length ∧ (∀ j, (h : j < ls.length) → j < i → p ls[j] = false) ∧ st = ⟨[(0, .sub 0 [] 0 ls.length ex), (1, .fn 97 .nil), (7, avInt ls.length), (8, avInt i)], [.sl true () 1 (dInts ls)], [], []⟩) ⟨ls.length, 0, by omega, by omega, by simp []⟩ ?_
  rintro m st ⟨i, hi, hall, rfl⟩
  repeat first
    | refine VS.seq ?_
    | (refine VS.keepAt 2 [0, 1, 7, 8] ?_; generalize hK : VS _ _ _ = KK; (try simp); (try subst hK); refine VS.region tabOk (id := 2) [] (by kernel_rfl) ?_; generalize hK : VS _ _ _ = KK; simp (maxSteps := 1000000) [hF]; (try subst hK); try (refine VS.keep [0, 1, 7, 8, 9] ?_; generalize hK : VS _ _ _ = KK; simp; (try subst hK)))
    | (refine VS.cond ?_; generalize hK1 : VS _ _ _ = KK1; generalize hK2 : VS _ _ _ = KK2; simp (maxSteps := 1000000) [hF]; (try subst hK1); (try subst hK2))
  refine ⟨fun hlt => ?_, fun hge => ?_⟩
  · have hi' : i < ls.length := by omega
    have hn := dInts_nth hi'
    repeat first
      | refine VS.seq ?_
      | refine VS.skip ?_
      | refine VS.block ?_
      | (refine VS.keepAt 3 [0, 1, 7, 8] ?_; generalize hK : VS _ _ _ = KK; (try simp); (try subst hK); refine VS.region tabOk (id := 3) [] (by kernel_rfl) ?_; generalize hK : VS _ _ _ = KK; simp (maxSteps := 1000000) [hF, hn, hi']; (try subst hK); try (refine VS.keep [0, 1, 5, 7, 8] ?_; generalize hK : VS _ _ _ = KK; simp; (try subst hK)))
      | (refine VS.keepAt 4 [0, 1, 5, 7, 8] ?_; generalize hK : VS _ _ _ = KK; (try simp); (try subst hK); refine VS.region tabOk (id := 4) [] (by kernel_rfl) ?_; generalize hK : VS _ _ _ = KK; simp (maxSteps := 1000000) [hF, hn, hi']; (try subst hK); try (refine VS.keep [0, 1, 5, 7, 8, 16] ?_; generalize hK : VS _ _ _ = KK; simp; (try subst hK)))
    refine (hg i hi').call [] (by simp) (by simp (maxSteps := 1000000) [hF]) (by simp (maxSteps := 1000000) [hF]) (by simp (maxSteps := 1000000) [hF]) (by simp) ?_
    rintro av X κ ⟨rfl, rfl, rfl⟩
    generalize hK : VS _ _ _ = KK; simp (maxSteps := 1000000) [hF]; (try subst hK)
    cases hp : p ls[i] with
    | true =>
      have hr : ixF p ls = i := ixF_hit hi' (fun j h => hall j (by omega) h) hp
      repeat first
        | refine VS.seq ?_
        | (refine VS.keepAt 5 [5] ?_; generalize hK : VS _ _ _ = KK; (try simp); (try subst hK); refine VS.region tabOk (id := 5) [] (by kernel_rfl) ?_; generalize hK : VS _ _ _ = KK; simp (maxSteps := 1000000) [hF, hp]; (try subst hK); try (refine VS.keep [4] ?_; generalize hK : VS _ _ _ = KK; simp; (try subst hK)))
        | (refine VS.cond ?_; generalize hK1 : VS _ _ _ = KK1; generalize hK2 : VS _ _ _ = KK2; simp (maxSteps := 1000000) [hF, hp]; (try subst hK1); (try subst hK2))
      try refine VS.ret ?_
      repeat first | refine blockN_ret ?_ | refine loopN_ret ?_
      refine endK.of [4] [0] [] (by simp [hF]) (by simp [covers, mpre]) ?_
      simp [hF, retK, hr]
    | false =>
      repeat first
        | refine VS.skip ?_
        | refine VS.nil ?_
        | refine blockN_normal ?_
        | refine loopN_normal ?_
        | (refine VS.keepAt 6 [0, 1, 7, 8] ?_; generalize hK : VS _ _ _ = KK; (try simp); (try subst hK); refine VS.region tabOk (id := 6) [] (by kernel_rfl) ?_; generalize hK : VS _ _ _ = KK; simp (maxSteps := 1000000) [hF, hp]; (try subst hK); try (refine VS.keep [0, 1, 7, 8] ?_; generalize hK : VS _ _ _ = KK; simp; (try subst hK)))
        | (refine VS.cond ?_; generalize hK1 : VS _ _ _ = KK1; generalize hK2 : VS _ _ _ = KK2; simp (maxSteps := 1000000) [hF, hp]; (try subst hK1); (try subst hK2))
      refine nextK.of [0, 1, 7, 8] [0] (m - 1) (by omega) (by simp [hF]) ?_
      refine ⟨i + 1, by omega, ?_, ?_⟩
      · intro j hj hji
        rcases Nat.lt_or_ge j i with h' | h'
        · exact hall j hj h'
        · obtain rfl : j = i := by omega
          exact hp
      · simp []
        exact IntWalk.i64_in _ (by omega)
  · have hr : ixF p ls = -1 := ixF_miss (fun j h => hall j h (by omega))
    repeat first
      | refine VS.seq ?_
      | refine VS.exit ?_
      | (refine VS.keepAt 7 [] ?_; generalize hK : VS _ _ _ = KK; (try simp); (try subst hK); refine VS.region tabOk (id := 7) [] (by kernel_rfl) ?_; generalize hK : VS _ _ _ = KK; simp (maxSteps := 1000000) [hF]; (try subst hK); try (refine VS.keep [4] ?_; generalize hK : VS _ _ _ = KK; simp; (try subst hK)))
    try refine VS.ret ?_
    repeat first | refine blockN_ret ?_ | refine loopN_ret ?_
    refine endK.of [4] [0] [] (by simp [hF]) (by simp [covers, mpre]) ?_
    simp [hF, retK, hr]

/- slices.DeleteFunc[[]int,int] -/
theorem deleteFunc_ds (ex : Bool) (ls : List Int) (hl : ls.length ≤ 100000000) (p : Int → Bool)
    (hg : ∀ i, (h : i < ls.length) → Meets Try.prog 97 [] (.cons (avInt ls[i]) .nil) fun av X κ => av = avBool (p ls[i]) ∧ X = [] ∧ κ = []) :
    Meets Try.prog 81 [.sl true () 1 (dInts ls)] (.cons (.sub 0 [] 0 ls.length ex) (.cons (.fn 97 .nil) .nil))
    fun av X κ => ∃ e z, (ex = false → e = false) ∧ av = .sub 0 [] 0 (ls.filter fun x => !p x).length e ∧ X = [.sl true () 1 (dInts ((ls.filter fun x => !p x) ++ z))] ∧ κ = [(0, [.i 0])] := by
  refine Meets.of_vs tabOk Try.func81 (body := ?_) ?_ (by kernel_rfl) Try.ntmps81 (rs := [.tmp 4]) (by kernel_rfl) rfl (by simp [AV.len]) (by simp only [envOf]; exact rfl) ?_
  rotate_left
  · rfl
  intro w0 I0 F0 hF
  repeat first
    | refine VS.seq ?_
    | (refine VS.keepAt 0 [0, 1] ?_; generalize hK : VS _ _ _ = KK; (try simp); (try subst hK); refine VS.region tabOk (id := 0) [] (by kernel_rfl) ?_; generalize hK : VS _ _ _ = KK; simp (maxSteps := 1000000) [hF]; (try subst hK); try (refine VS.keep [0, 1] ?_; generalize hK : VS _ _ _ = KK; simp; (try subst hK)))
    | (refine VS.keepAt 1 [0, 1] ?_; generalize hK : VS _ _ _ = KK; (try simp); (try subst hK); refine VS.region tabOk (id := 1) [] (by kernel_rfl) ?_; generalize hK : VS _ _ _ = KK; simp (maxSteps := 1000000) [hF]; (try subst hK); try (refine VS.keep [0, 1, 5] ?_; generalize hK : VS _ _ _ = KK; simp; (try subst hK)))
  refine (indexFunc_ds ex ls hl p hg).call [(0, [])] (by simp) (by simp (maxSteps := 1000000) [hF]) (by simp (maxSteps := 1000000) [hF]) (by simp (maxSteps := 1000000) [hF]) (by simp) ?_
  rintro av X κ ⟨rfl, rfl, rfl⟩
  generalize hK : VS _ _ _ = KK; simp (maxSteps := 1000000) [hF]; (try subst hK)
  by_cases ha : ls.any p = true
  · obtain ⟨i, hi, hix, hpi, hpre⟩ := ixF_some ha
    have hw : IntKind.i64.wrap ((i : Int) + 1) = (i + 1 : Nat) := by rw [IntWalk.i64_in _ (by omega)]; rfl
    have hti : (ls.take (i + 1)).filter (fun x => !p x) = ls.take i := by
      rw [List.take_add_one, List.filter_append, List.getElem?_eq_getElem hi]
      rw [List.filter_eq_self.2 fun x hx => by
        obtain ⟨j, hj, rfl⟩ := List.mem_take_iff_getElem.1 hx
        simpa using hpre j (by omega)]
      simp [hpi]
    repeat first
      | refine VS.seq ?_
      | refine VS.skip ?_
      | refine VS.block ?_
      | (refine VS.keepAt 2 [0, 1, 5] ?_; generalize hK : VS _ _ _ = KK; (try simp); (try subst hK); refine VS.region tabOk (id := 2) [] (by kernel_rfl) ?_; generalize hK : VS _ _ _ = KK; simp (maxSteps := 1000000) [hF, hix, hw]; (try subst hK); try (refine VS.keep [0, 1, 5, 12] ?_; generalize hK : VS _ _ _ = KK; simp; (try subst hK)))
      | (refine VS.keepAt 4 [0, 1, 5] ?_; generalize hK : VS _ _ _ = KK; (try simp); (try subst hK); refine VS.region tabOk (id := 4) [] (by kernel_rfl) ?_; generalize hK : VS _ _ _ = KK; simp (maxSteps := 1000000) [hF, hix, hw]; (try subst hK); try (refine VS.keep [0, 1, 5, 6] ?_; generalize hK : VS _ _ _ = KK; simp; (try subst hK)))
      | (refine VS.cond ?_; generalize hK1 : VS _ _ _ = KK1; generalize hK2 : VS _ _ _ = KK2; simp (maxSteps := 1000000) [hF, hix, hw]; (try subst hK1); (try subst hK2))
    refine VS.rounds (fun m st => ∃ (j : Nat) (mid : List Int), j + m = ls.length ∧ ((ls.take j).filter fun x => !p x).length + mid.length = j ∧ 0 < mid.length ∧ st = ⟨[(0, .sub 0 [] 0 ls.length ex), (1, .fn 97 .nil), (5, avInt ((ls.take j).filter fun x => !p x).length), (6, avInt j)], [.sl true () 1 (dInts (((ls.take j).filter fun x => !p x) ++ mid ++ ls.drop j)), ], [], []⟩) ⟨ls.length - (i + 1), i + 1, [ls[i]], by omega, by rw [hti]; simp; omega, by simp, by
      rw [hti]
      have e : ls.take i ++ [ls[i]] ++ ls.drop (i + 1) = ls := by simp
      rw [e]
      simp [Nat.min_eq_left (Nat.le_of_lt hi), ]⟩ ?_
    rintro m st ⟨j, mid, hj, hk, hmd, rfl⟩
    repeat first
      | refine VS.seq ?_
      | (refine VS.keepAt 5 [0, 1, 5, 6] ?_; generalize hK : VS _ _ _ = KK; (try simp); (try subst hK); refine VS.region tabOk (id := 5) [] (by kernel_rfl) ?_; generalize hK : VS _ _ _ = KK; simp (maxSteps := 1000000) [hF]; (try subst hK); try (refine VS.keep [0, 1, 5, 6, 19] ?_; generalize hK : VS _ _ _ = KK; simp; (try subst hK)))
      | (refine VS.cond ?_; generalize hK1 : VS _ _ _ = KK1; generalize hK2 : VS _ _ _ = KK2; simp (maxSteps := 1000000) [hF]; (try subst hK1); (try subst hK2))
    refine ⟨fun hlt => ?_, fun hge => ?_⟩
    · have hn : (dInts (((ls.take j).filter fun x => !p x) ++ (mid ++ ls.drop j))).nth j = .val (.int .i64 ls[j]) := by
        rw [dInts_nth (by simp; omega)]
        have : (((ls.take j).filter fun x => !p x) ++ (mid ++ ls.drop j))[j]? = some ls[j] := by
          rw [List.getElem?_append_right (by omega), List.getElem?_append_right (by omega), List.getElem?_drop, List.getElem?_eq_getElem (by omega)]
          congr 2; omega
        rw [(List.getElem_eq_iff _).2 this]
      have hw1 : IntKind.i64.wrap ((j : Int) + 1) = (j + 1 : Nat) := by rw [IntWalk.i64_in _ (by omega)]; rfl
      have ht1 : ls.take (j + 1) = ls.take j ++ [ls[j]] := by rw [List.take_add_one, List.getElem?_eq_getElem hlt]; rfl
      have hd1 : ls.drop j = ls[j] :: ls.drop (j + 1) := List.drop_eq_getElem_cons hlt
      repeat first
        | refine VS.seq ?_
        | refine VS.skip ?_
        | refine VS.block ?_
        | (refine VS.keepAt 7 [0, 1, 5, 6] ?_; generalize hK : VS _ _ _ = KK; (try simp); (try subst hK); refine VS.region tabOk (id := 7) [] (by kernel_rfl) ?_; generalize hK : VS _ _ _ = KK; simp (maxSteps := 1000000) [hF, hn, hlt]; (try subst hK); try (refine VS.keep [0, 1, 5, 6, 7] ?_; generalize hK : VS _ _ _ = KK; simp; (try subst hK)))
        | (refine VS.keepAt 8 [0, 1, 5, 6, 7] ?_; generalize hK : VS _ _ _ = KK; (try simp); (try subst hK); refine VS.region tabOk (id := 8) [] (by kernel_rfl) ?_; generalize hK : VS _ _ _ = KK; simp (maxSteps := 1000000) [hF, hn, hlt]; (try subst hK); try (refine VS.keep [0, 1, 5, 6, 7, 29] ?_; generalize hK : VS _ _ _ = KK; simp; (try subst hK)))
      refine (hg j hlt).call [] (by simp) (by simp (maxSteps := 1000000) [hF]) (by simp (maxSteps := 1000000) [hF]) (by simp (maxSteps := 1000000) [hF]) (by simp) ?_
      rintro av X κ ⟨rfl, rfl, rfl⟩
      generalize hK : VS _ _ _ = KK; simp (maxSteps := 1000000) [hF]; (try subst hK)
      cases hp : p ls[j] with
      | true =>
        have hf1 : (ls.take (j + 1)).filter (fun x => !p x) = (ls.take j).filter (fun x => !p x) := by rw [ht1, List.filter_append]; simp [hp]
        repeat first
          | refine VS.skip ?_
          | refine VS.nil ?_
          | refine blockN_normal ?_
          | refine loopN_normal ?_
          | (refine VS.keepAt 6 [0, 1, 5, 6] ?_; generalize hK : VS _ _ _ = KK; (try simp); (try subst hK); refine VS.region tabOk (id := 6) [] (by kernel_rfl) ?_; generalize hK : VS _ _ _ = KK; simp (maxSteps := 1000000) [hF, hp, hw1]; (try subst hK); try (refine VS.keep [0, 1, 5, 6] ?_; generalize hK : VS _ _ _ = KK; simp; (try subst hK)))
          | (refine VS.cond ?_; generalize hK1 : VS _ _ _ = KK1; generalize hK2 : VS _ _ _ = KK2; simp (maxSteps := 1000000) [hF, hp, hw1]; (try subst hK1); (try subst hK2))
        refine nextK.of [0, 1, 5, 6] [0] (m - 1) (by omega) (by simp [hF]) ?_
        refine ⟨j + 1, mid ++ [ls[j]], by omega, by rw [hf1]; simp; omega, by simp, ?_⟩
        rw [hf1, hd1]
        simp []
      | false =>
        have hf1 : (ls.take (j + 1)).filter (fun x => !p x) = (ls.take j).filter (fun x => !p x) ++ [ls[j]] := by rw [ht1, List.filter_append]; simp [hp]
        have hw2 : IntKind.i64.wrap ((((ls.take j).filter fun x => !p x).length : Int) + 1) = (((ls.take j).filter fun x => !p x).length + 1 : Nat) := by rw [IntWalk.i64_in _ (by omega)]; rfl
        have hkl : ((ls.take j).filter fun x => !p x).length < ls.length := by omega
        have hset : (dInts (((ls.take j).filter fun x => !p x) ++ (mid ++ ls.drop j))).setN ((ls.take j).filter fun x => !p x).length (.val (.int .i64 ls[j])) = dInts (((ls.take j).filter fun x => !p x) ++ (ls[j] :: (mid.tail ++ ls.drop j))) := by
          rw [dInts_set, set_mid hmd]
        obtain ⟨v0, hnk⟩ : ∃ v0, (dInts (((ls.take j).filter fun x => !p x) ++ (mid ++ ls.drop j))).nth ((ls.take j).filter fun x => !p x).length = .val (.int .i64 v0) := ⟨_, dInts_nth (by simp; omega)⟩
        have hpos : 0 < mid.length + (ls.length - j) := by omega
        repeat first
          | refine VS.seq ?_
          | refine VS.nil ?_
          | refine blockN_normal ?_
          | refine loopN_normal ?_
          | (refine VS.keepAt 6 [0, 1, 5, 6] ?_; generalize hK : VS _ _ _ = KK; (try simp); (try subst hK); refine VS.region tabOk (id := 6) [] (by kernel_rfl) ?_; generalize hK : VS _ _ _ = KK; simp (maxSteps := 1000000) [hF, hp, hw1, hw2, hkl, hset, hnk, hpos]; (try subst hK); try (refine VS.keep [0, 1, 5, 6] ?_; generalize hK : VS _ _ _ = KK; simp; (try subst hK)))
          | (refine VS.keepAt 9 [0, 1, 5, 6, 7] ?_; generalize hK : VS _ _ _ = KK; (try simp); (try subst hK); refine VS.region tabOk (id := 9) [] (by kernel_rfl) ?_; generalize hK : VS _ _ _ = KK; simp (maxSteps := 1000000) [hF, hp, hw1, hw2, hkl, hset, hnk, hpos]; (try subst hK); try (refine VS.keep [0, 1, 5, 6] ?_; generalize hK : VS _ _ _ = KK; simp; (try subst hK)))
          | (refine VS.keepAt 10 [0, 1, 5, 6] ?_; generalize hK : VS _ _ _ = KK; (try simp); (try subst hK); refine VS.region tabOk (id := 10) [] (by kernel_rfl) ?_; generalize hK : VS _ _ _ = KK; simp (maxSteps := 1000000) [hF, hp, hw1, hw2, hkl, hset, hnk, hpos]; (try subst hK); try (refine VS.keep [0, 1, 5, 6] ?_; generalize hK : VS _ _ _ = KK; simp; (try subst hK)))
          | (refine VS.cond ?_; generalize hK1 : VS _ _ _ = KK1; generalize hK2 : VS _ _ _ = KK2; simp (maxSteps := 1000000) [hF, hp, hw1, hw2, hkl, hset, hnk, hpos]; (try subst hK1); (try subst hK2))
        refine nextK.of [0, 1, 5, 6] [0] (m - 1) (by omega) (by simp [hF]) ?_
        refine ⟨j + 1, mid.tail ++ [ls[j]], by omega, by rw [hf1]; simp; omega, by simp, ?_⟩
        rw [hf1, hd1]
        simp []
    · have hjl : j = ls.length := by omega
      subst hjl
      rw [List.take_of_length_le (Nat.le_refl _)] at hk
      simp only [List.take_of_length_le (Nat.le_refl _), List.drop_of_length_le (Nat.le_refl _)] 
      have hkl : (ls.filter fun x => !p x).length ≤ ls.length := by omega
      have htk : ((dInts ((ls.filter fun x => !p x) ++ mid)).take (ls.filter fun x => !p x).length).app (sq (List.replicate (ls.length - (ls.filter fun x => !p x).length) (.val (.int .i64 0)))) = dInts ((ls.filter fun x => !p x) ++ List.replicate (ls.length - (ls.filter fun x => !p x).length) 0) := by
        have e : (dInts ((ls.filter fun x => !p x) ++ mid)).take (ls.filter fun x => !p x).length = dInts (ls.filter fun x => !p x) := by
          have := dInts_mid ((ls.filter fun x => !p x) ++ mid) 0 (ls.filter fun x => !p x).length
          simpa [T.mid, T.drop] using this
        have e2 : (sq (List.replicate (ls.length - (ls.filter fun x => !p x).length) (.val (.int .i64 0))) : D) = dInts (List.replicate (ls.length - (ls.filter fun x => !p x).length) 0) := by simp [dInts, dInt]
        rw [e, e2, dInts_app]
      repeat first
        | refine VS.seq ?_
        | refine VS.exit ?_
        | (refine VS.keepAt 11 [0, 5] ?_; generalize hK : VS _ _ _ = KK; (try simp); (try subst hK); refine VS.region tabOk (id := 11) [] (by kernel_rfl) ?_; generalize hK : VS _ _ _ = KK; simp (maxSteps := 1000000) [hF, hkl, hk, htk]; (try subst hK); try (refine VS.keep [0, 5] ?_; generalize hK : VS _ _ _ = KK; simp; (try subst hK)))
        | (refine VS.keepAt 12 [0, 5] ?_; generalize hK : VS _ _ _ = KK; (try simp); (try subst hK); refine VS.region tabOk (id := 12) [] (by kernel_rfl) ?_; generalize hK : VS _ _ _ = KK; simp (maxSteps := 1000000) [hF, hkl, hk, htk]; (try subst hK); try (refine VS.keep [4] ?_; generalize hK : VS _ _ _ = KK; simp; (try subst hK)))
      try refine VS.ret ?_
      repeat first | refine blockN_ret ?_ | refine loopN_ret ?_
      refine endK.of [4] [0] [(0, [.i 0])] (by simp [hF]) (by simp [covers, mpre]) ?_
      simp [hF, retK, htk]
      exact ⟨_, rfl⟩
  · have hix : ixF p ls = -1 := by rw [ixF, if_neg ha]
    have hfi : (ls.filter fun x => !p x) = ls := List.filter_eq_self.2 fun x hx => by
      cases hp : p x with
      | false => rfl
      | true => exact absurd (List.any_eq_true.2 ⟨x, hx, hp⟩) ha
    repeat first
      | refine VS.seq ?_
      | (refine VS.keepAt 2 [0, 1, 5] ?_; generalize hK : VS _ _ _ = KK; (try simp); (try subst hK); refine VS.region tabOk (id := 2) [] (by kernel_rfl) ?_; generalize hK : VS _ _ _ = KK; simp (maxSteps := 1000000) [hF, hix]; (try subst hK); try (refine VS.keep [0, 1, 5, 12] ?_; generalize hK : VS _ _ _ = KK; simp; (try subst hK)))
      | (refine VS.keepAt 3 [0] ?_; generalize hK : VS _ _ _ = KK; (try simp); (try subst hK); refine VS.region tabOk (id := 3) [] (by kernel_rfl) ?_; generalize hK : VS _ _ _ = KK; simp (maxSteps := 1000000) [hF, hix]; (try subst hK); try (refine VS.keep [4] ?_; generalize hK : VS _ _ _ = KK; simp; (try subst hK)))
      | (refine VS.cond ?_; generalize hK1 : VS _ _ _ = KK1; generalize hK2 : VS _ _ _ = KK2; simp (maxSteps := 1000000) [hF, hix]; (try subst hK1); (try subst hK2))
    refine VS.widen [(0, [.i 0])] (by simp [covers, mpre]) ?_
    try refine VS.ret ?_
    repeat first | refine blockN_ret ?_ | refine loopN_ret ?_
    refine endK.of [4] [0] [(0, [.i 0])] (by simp [hF]) (by simp [covers, mpre]) ?_
    simp [hF, retK, hfi]
    cases ex with
    | false => exact .inl ⟨rfl, [], by simp⟩
    | true => exact .inr ⟨rfl, [], by simp⟩

end Go.Proofs.Ytkkbcpcihadkhaa

/- What is a thing's own; whether it may be shared; the error of sending. -/
namespace Go.Proofs.Ytkkbcpcihadkhaa
set_option linter.all false
open Go.Vc Go.Proofs
set_option linter.unusedSimpArgs false
set_option linter.unusedVariables false
set_option maxRecDepth 100000
set_option maxHeartbeats 4000000
attribute [local irreducible] CallW EqK

/- (*cabochon/isolate.House).own$1 -/
theorem own1_ok (h : Hs) (x : Nat) (hx : x < h.things.length) : Meets Try.prog 82 [dHB h] (.cons (avInt x) (.cons (.ptr 0 [.d]) .nil)) fun av X κ => av = avBool (!notSh h.things x) ∧ X = [dHB h] ∧ κ = [] := by
  have hn := dTgs_nth (o := false) hx
  have hw : IntKind.i64.wrap (-1) = -1 := by decide
  by_cases h1 : h.things[x].owner = -1
  · have hc : notSh h.things x = false := by simp [notSh, hx, h1]
    refine Meets.of_vs tabOk Try.func82 (body := ?_) ?_ (by kernel_rfl) Try.ntmps82 (rs := [.tmp 3]) (by kernel_rfl) rfl (by simp [AV.len]) (by simp only [envOf]; exact rfl) ?_
    rotate_left
    · rfl
    intro w0 I0 F0 hF
    repeat first
      | refine VS.seq ?_
      | (refine VS.keepAt 0 [0, 1] ?_; generalize hK : VS _ _ _ = KK; (try simp); (try subst hK); refine VS.region tabOk (id := 0) [] (by kernel_rfl) ?_; generalize hK : VS _ _ _ = KK; simp (maxSteps := 1000000) [hF, dHB, dHI, hn, hx, h1]; (try subst hK); try (refine VS.keep [0, 1] ?_; generalize hK : VS _ _ _ = KK; simp; (try subst hK)))
      | (refine VS.keepAt 1 [0, 1] ?_; generalize hK : VS _ _ _ = KK; (try simp); (try subst hK); refine VS.region tabOk (id := 1) [] (by kernel_rfl) ?_; generalize hK : VS _ _ _ = KK; simp (maxSteps := 1000000) [hF, dHB, dHI, hn, hx, h1]; (try subst hK); try (refine VS.keep [3] ?_; generalize hK : VS _ _ _ = KK; simp; (try subst hK)))
    try refine VS.ret ?_
    repeat first | refine blockN_ret ?_ | refine loopN_ret ?_
    refine endK.of [3] [0] [] (by simp [hF]) (by simp [covers, mpre]) ?_
    simp [hF, retK, dHB, dHI, hc]
  · have hc : notSh h.things x = true := by simp [notSh, hx, h1]
    refine Meets.of_vs tabOk Try.func82 (body := ?_) ?_ (by kernel_rfl) Try.ntmps82 (rs := [.tmp 3]) (by kernel_rfl) rfl (by simp [AV.len]) (by simp only [envOf]; exact rfl) ?_
    rotate_left
    · rfl
    intro w0 I0 F0 hF
    repeat first
      | refine VS.seq ?_
      | (refine VS.keepAt 0 [0, 1] ?_; generalize hK : VS _ _ _ = KK; (try simp); (try subst hK); refine VS.region tabOk (id := 0) [] (by kernel_rfl) ?_; generalize hK : VS _ _ _ = KK; simp (maxSteps := 1000000) [hF, dHB, dHI, hn, hx, h1]; (try subst hK); try (refine VS.keep [0, 1] ?_; generalize hK : VS _ _ _ = KK; simp; (try subst hK)))
      | (refine VS.keepAt 1 [0, 1] ?_; generalize hK : VS _ _ _ = KK; (try simp); (try subst hK); refine VS.region tabOk (id := 1) [] (by kernel_rfl) ?_; generalize hK : VS _ _ _ = KK; simp (maxSteps := 1000000) [hF, dHB, dHI, hn, hx, h1]; (try subst hK); try (refine VS.keep [3] ?_; generalize hK : VS _ _ _ = KK; simp; (try subst hK)))
    try refine VS.ret ?_
    repeat first | refine blockN_ret ?_ | refine loopN_ret ?_
    refine endK.of [3] [0] [] (by simp [hF]) (by simp [covers, mpre]) ?_
    simp [hF, retK, dHB, dHI, hc]

theorem reach_len {h : Hs} (hok : Hok h) {x : Nat} (hx : x < h.things.length) : (reachA h.things x).length ≤ 400 :=
  Nat.le_trans (nodup_len (reachA_nodup _ _) (reachA_valid hok.items ⟨by omega, by omega⟩)) hok.things
theorem reach_nat {h : Hs} (hok : Hok h) {x : Nat} (hx : x < h.things.length) {i : Nat} (hi : i < (reachA h.things x).length) : ∃ k : Nat, (reachA h.things x)[i] = k ∧ k < h.things.length := by
  have := reachA_valid hok.items (x := x) ⟨by omega, by omega⟩ _ (List.getElem_mem hi)
  exact ⟨(reachA h.things x)[i].toNat, by omega, by omega⟩

/- (*cabochon/isolate.House).own -/
theorem own_ok (h : Hs) (hok : Hok h) (x : Nat) (hx : x < h.things.length) : Meets Try.prog 46 [] (.cons (avH h) (.cons (avInt x) .nil))
    fun av X κ => ∃ z, av = .sub 0 [] 0 (ownA h.things x).length false ∧ X = [.sl true () 1 (dInts (ownA h.things x ++ z))] ∧ κ = [] := by
  have hl := reach_len hok hx
  refine Meets.of_vs tabOk Try.func46 (body := ?_) ?_ (by kernel_rfl) Try.ntmps46 (rs := [.tmp 4]) (by kernel_rfl) rfl (by simp [AV.len]) (by simp only [envOf]; exact rfl) ?_
  rotate_left
  · rfl
  intro w0 I0 F0 hF
  repeat first
    | refine VS.seq ?_
    | (refine VS.keepAt 0 [0, 1] ?_; generalize hK : VS _ _ _ = KK; (try simp); (try subst hK); refine VS.region tabOk (id := 0) [] (by kernel_rfl) ?_; generalize hK : VS _ _ _ = KK; simp (maxSteps := 1000000) [hF]; (try subst hK); try (refine VS.keep [1, 2] ?_; generalize hK : VS _ _ _ = KK; simp; (try subst hK)))
    | (refine VS.keepAt 1 [1, 2] ?_; generalize hK : VS _ _ _ = KK; (try simp); (try subst hK); refine VS.region tabOk (id := 1) [] (by kernel_rfl) ?_; generalize hK : VS _ _ _ = KK; simp (maxSteps := 1000000) [hF]; (try subst hK); try (refine VS.keep [4] ?_; generalize hK : VS _ _ _ = KK; simp; (try subst hK)))
  refine (reach_ok h hok x hx).call [] (by simp) (by simp (maxSteps := 1000000) [hF]) (by simp (maxSteps := 1000000) [hF]) (by simp (maxSteps := 1000000) [hF]) (by simp) ?_
  rintro av X κ ⟨rfl, rfl, rfl⟩
  generalize hK : VS _ _ _ = KK; simp (maxSteps := 1000000) [hF]; (try subst hK)
  refine (deleteFunc_os false (reachA h.things x) h (by omega) (fun y => !notSh h.things y) (fun i hi => by obtain ⟨k, e, hk⟩ := reach_nat hok hx hi; rw [e]; exact own1_ok h k hk)).call [(1, []), (0, [])] (by simp) (by simp (maxSteps := 1000000) [hF, dHB]) (by simp (maxSteps := 1000000) [hF, dHB]) (by simp (maxSteps := 1000000) [hF, dHB]) (by simp) ?_
  rintro av X κ ⟨e, z, he, rfl, rfl, rfl⟩
  generalize hK : VS _ _ _ = KK; simp (maxSteps := 1000000) [hF, dHB]; (try subst hK)
  obtain rfl := he rfl
  have hf : (reachA h.things x).filter (fun y => notSh h.things y) = ownA h.things x := rfl
  rw [hf]
  try refine VS.ret ?_
  repeat first | refine blockN_ret ?_ | refine loopN_ret ?_
  refine endK.of [4] [1] [] (by simp [hF]) (by simp [covers, mpre]) ?_
  simp [hF, retK, hf]
  exact ⟨_, rfl⟩

/- (*cabochon/isolate.House).shareable$1 -/
theorem shareable1_ok (h : Hs) (x : Nat) (hx : x < h.things.length) : Meets Try.prog 98 [dHB h] (.cons (avInt x) (.cons (.ptr 0 [.d]) .nil))
    fun av X κ => av = avBool (notSh h.things x && (gd h.things x).list && !(gd h.things x).frozen) ∧ X = [dHB h] ∧ κ = [] := by
  have hn := dTgs_nth (o := false) hx
  have hw : IntKind.i64.wrap (-1) = -1 := by decide
  by_cases h1 : h.things[x].owner = -1
  · have hc : notSh h.things x = false := by simp [notSh, hx, h1]
    refine Meets.of_vs tabOk Try.func98 (body := ?_) ?_ (by kernel_rfl) Try.ntmps98 (rs := [.tmp 3]) (by kernel_rfl) rfl (by simp [AV.len]) (by simp only [envOf]; exact rfl) ?_
    rotate_left
    · rfl
    intro w0 I0 F0 hF
    repeat first
      | refine VS.seq ?_
      | (refine VS.keepAt 0 [0, 1] ?_; generalize hK : VS _ _ _ = KK; (try simp); (try subst hK); refine VS.region tabOk (id := 0) [] (by kernel_rfl) ?_; generalize hK : VS _ _ _ = KK; simp (maxSteps := 1000000) [hF, dHB, dHI, hn, hx, h1]; (try subst hK); try (refine VS.keep [0, 1] ?_; generalize hK : VS _ _ _ = KK; simp; (try subst hK)))
      | (refine VS.keepAt 1 [0, 1] ?_; generalize hK : VS _ _ _ = KK; (try simp); (try subst hK); refine VS.region tabOk (id := 1) [] (by kernel_rfl) ?_; generalize hK : VS _ _ _ = KK; simp (maxSteps := 1000000) [hF, dHB, dHI, hn, hx, h1]; (try subst hK); try (refine VS.keep [4] ?_; generalize hK : VS _ _ _ = KK; simp; (try subst hK)))
      | (refine VS.keepAt 2 [4] ?_; generalize hK : VS _ _ _ = KK; (try simp); (try subst hK); refine VS.region tabOk (id := 2) [(3, 15), (7, 19)] (by kernel_rfl) ?_; generalize hK : VS _ _ _ = KK; simp (maxSteps := 1000000) [hF, dHB, dHI, hn, hx, h1]; (try subst hK); try (refine VS.keep [3] ?_; generalize hK : VS _ _ _ = KK; simp; (try subst hK)))
    try refine VS.ret ?_
    repeat first | refine blockN_ret ?_ | refine loopN_ret ?_
    refine endK.of [3] [0] [] (by simp [hF]) (by simp [covers, mpre]) ?_
    simp [hF, retK, dHB, dHI, hc]
  · have hc : notSh h.things x = true := by simp [notSh, hx, h1]
    cases h2 : h.things[x].list with
    | true =>
      rw [h2] at hn
      refine Meets.of_vs tabOk Try.func98 (body := ?_) ?_ (by kernel_rfl) Try.ntmps98 (rs := [.tmp 3]) (by kernel_rfl) rfl (by simp [AV.len]) (by simp only [envOf]; exact rfl) ?_
      rotate_left
      · rfl
      intro w0 I0 F0 hF
      repeat first
        | refine VS.seq ?_
        | (refine VS.keepAt 0 [0, 1] ?_; generalize hK : VS _ _ _ = KK; (try simp); (try subst hK); refine VS.region tabOk (id := 0) [] (by kernel_rfl) ?_; generalize hK : VS _ _ _ = KK; simp (maxSteps := 1000000) [hF, dHB, dHI, hn, hx, h1]; (try subst hK); try (refine VS.keep [0, 1] ?_; generalize hK : VS _ _ _ = KK; simp; (try subst hK)))
        | (refine VS.keepAt 1 [0, 1] ?_; generalize hK : VS _ _ _ = KK; (try simp); (try subst hK); refine VS.region tabOk (id := 1) [] (by kernel_rfl) ?_; generalize hK : VS _ _ _ = KK; simp (maxSteps := 1000000) [hF, dHB, dHI, hn, hx, h1]; (try subst hK); try (refine VS.keep [4] ?_; generalize hK : VS _ _ _ = KK; simp; (try subst hK)))
        | (refine VS.keepAt 2 [4] ?_; generalize hK : VS _ _ _ = KK; (try simp); (try subst hK); refine VS.region tabOk (id := 2) [(3, 15), (7, 19)] (by kernel_rfl) ?_; generalize hK : VS _ _ _ = KK; simp (maxSteps := 1000000) [hF, dHB, dHI, hn, hx, h1]; (try subst hK); try (refine VS.keep [3] ?_; generalize hK : VS _ _ _ = KK; simp; (try subst hK)))
      try refine VS.ret ?_
      repeat first | refine blockN_ret ?_ | refine loopN_ret ?_
      refine endK.of [3] [0] [] (by simp [hF]) (by simp [covers, mpre]) ?_
      simp [hF, retK, dHB, dHI, hc, hx, h2]
    | false =>
      rw [h2] at hn
      refine Meets.of_vs tabOk Try.func98 (body := ?_) ?_ (by kernel_rfl) Try.ntmps98 (rs := [.tmp 3]) (by kernel_rfl) rfl (by simp [AV.len]) (by simp only [envOf]; exact rfl) ?_
      rotate_left
      · rfl
      intro w0 I0 F0 hF
      repeat first
        | refine VS.seq ?_
        | (refine VS.keepAt 0 [0, 1] ?_; generalize hK : VS _ _ _ = KK; (try simp); (try subst hK); refine VS.region tabOk (id := 0) [] (by kernel_rfl) ?_; generalize hK : VS _ _ _ = KK; simp (maxSteps := 1000000) [hF, dHB, dHI, hn, hx, h1]; (try subst hK); try (refine VS.keep [0, 1] ?_; generalize hK : VS _ _ _ = KK; simp; (try subst hK)))
        | (refine VS.keepAt 1 [0, 1] ?_; generalize hK : VS _ _ _ = KK; (try simp); (try subst hK); refine VS.region tabOk (id := 1) [] (by kernel_rfl) ?_; generalize hK : VS _ _ _ = KK; simp (maxSteps := 1000000) [hF, dHB, dHI, hn, hx, h1]; (try subst hK); try (refine VS.keep [4] ?_; generalize hK : VS _ _ _ = KK; simp; (try subst hK)))
        | (refine VS.keepAt 2 [4] ?_; generalize hK : VS _ _ _ = KK; (try simp); (try subst hK); refine VS.region tabOk (id := 2) [(3, 15), (7, 19)] (by kernel_rfl) ?_; generalize hK : VS _ _ _ = KK; simp (maxSteps := 1000000) [hF, dHB, dHI, hn, hx, h1]; (try subst hK); try (refine VS.keep [3] ?_; generalize hK : VS _ _ _ = KK; simp; (try subst hK)))
      try refine VS.ret ?_
      repeat first | refine blockN_ret ?_ | refine loopN_ret ?_
      refine endK.of [3] [0] [] (by simp [hF]) (by simp [covers, mpre]) ?_
      simp [hF, retK, dHB, dHI, hc, hx, h2]

/- (*cabochon/isolate.House).shareable -/
theorem shareable_ok (h : Hs) (hok : Hok h) (x : Nat) (hx : x < h.things.length) : Meets Try.prog 75 [] (.cons (avH h) (.cons (avInt x) .nil))
    fun av X κ => av = avBool (shbl h.things x) ∧ X = [] ∧ κ = [] := by
  have hl := reach_len hok hx
  have hb : (!(reachA h.things x).any fun y => notSh h.things y && (gd h.things y).list && !(gd h.things y).frozen) = shbl h.things x := by rw [shbl, ← any_not]; simp
  refine Meets.of_vs tabOk Try.func75 (body := ?_) ?_ (by kernel_rfl) Try.ntmps75 (rs := [.tmp 4]) (by kernel_rfl) rfl (by simp [AV.len]) (by simp only [envOf]; exact rfl) ?_
  rotate_left
  · rfl
  intro w0 I0 F0 hF
  repeat first
    | refine VS.seq ?_
    | (refine VS.keepAt 0 [0, 1] ?_; generalize hK : VS _ _ _ = KK; (try simp); (try subst hK); refine VS.region tabOk (id := 0) [] (by kernel_rfl) ?_; generalize hK : VS _ _ _ = KK; simp (maxSteps := 1000000) [hF]; (try subst hK); try (refine VS.keep [1, 2] ?_; generalize hK : VS _ _ _ = KK; simp; (try subst hK)))
    | (refine VS.keepAt 1 [1, 2] ?_; generalize hK : VS _ _ _ = KK; (try simp); (try subst hK); refine VS.region tabOk (id := 1) [] (by kernel_rfl) ?_; generalize hK : VS _ _ _ = KK; simp (maxSteps := 1000000) [hF]; (try subst hK); try (refine VS.keep [4] ?_; generalize hK : VS _ _ _ = KK; simp; (try subst hK)))
  refine (reach_ok h hok x hx).call [] (by simp) (by simp (maxSteps := 1000000) [hF]) (by simp (maxSteps := 1000000) [hF]) (by simp (maxSteps := 1000000) [hF]) (by simp) ?_
  rintro av X κ ⟨rfl, rfl, rfl⟩
  generalize hK : VS _ _ _ = KK; simp (maxSteps := 1000000) [hF]; (try subst hK)
  refine (containsFunc_ss false (reachA h.things x) h (by omega) (fun y => notSh h.things y && (gd h.things y).list && !(gd h.things y).frozen) (fun i hi => by obtain ⟨k, e, hk⟩ := reach_nat hok hx hi; rw [e]; exact shareable1_ok h k hk)).call [(1, []), (0, [])] (by simp) (by simp (maxSteps := 1000000) [hF, dHB]) (by simp (maxSteps := 1000000) [hF, dHB]) (by simp (maxSteps := 1000000) [hF, dHB]) (by simp) ?_
  rintro av X κ ⟨rfl, rfl, rfl⟩
  generalize hK : VS _ _ _ = KK; simp (maxSteps := 1000000) [hF, dHB]; (try subst hK)
  rw [hb]
  try refine VS.ret ?_
  repeat first | refine blockN_ret ?_ | refine loopN_ret ?_
  refine endK.of [4] [] [] (by simp [hF]) (by simp [covers, mpre]) ?_
  simp [hF, retK, hb]

/- (*cabochon/isolate.House).Shareable -/
theorem hShareable_ok (h : Hs) (hok : Hok h) (x : Int) : Meets Try.prog 33 [] (.cons (avH h) (.cons (avInt x) .nil))
    fun av X κ => av = avTwo (avBool (shareableOf h x).1) (shareableOf h x).2 ∧ X = [] ∧ κ = [] := by
  have hw : IntKind.i64.wrap (-2) = -2 := by decide
  refine Meets.of_vs tabOk Try.func33 (body := ?_) ?_ (by kernel_rfl) Try.ntmps33 (rs := [.tmp 4, .tmp 5]) (by kernel_rfl) rfl (by simp [AV.len]) (by simp only [envOf]; exact rfl) ?_
  rotate_left
  · rfl
  intro w0 I0 F0 hF
  repeat first
    | refine VS.seq ?_
    | refine VS.block ?_
    | (refine VS.keepAt 0 [0, 1] ?_; generalize hK : VS _ _ _ = KK; (try simp); (try subst hK); refine VS.region tabOk (id := 0) [] (by kernel_rfl) ?_; generalize hK : VS _ _ _ = KK; simp (maxSteps := 1000000) [hF]; (try subst hK); try (refine VS.keep [0, 1] ?_; generalize hK : VS _ _ _ = KK; simp; (try subst hK)))
    | (refine VS.keepAt 1 [0, 1] ?_; generalize hK : VS _ _ _ = KK; (try simp); (try subst hK); refine VS.region tabOk (id := 1) [] (by kernel_rfl) ?_; generalize hK : VS _ _ _ = KK; simp (maxSteps := 1000000) [hF]; (try subst hK); try (refine VS.keep [0, 1, 6] ?_; generalize hK : VS _ _ _ = KK; simp; (try subst hK)))
  cases ht : isT h x with
  | false =>
    have hc : shareableOf h x = (false, 1) := by simp [shareableOf, ht]
    refine (has_s1 h true x).call [(0, [])] (by simp) (by simp (maxSteps := 1000000) [hF, ht]) (by simp (maxSteps := 1000000) [hF, ht]) (by simp (maxSteps := 1000000) [hF, ht]) (by simp) ?_
    rintro av X κ ⟨rfl, rfl, rfl⟩
    generalize hK : VS _ _ _ = KK; simp (maxSteps := 1000000) [hF, ht]; (try subst hK)
    repeat first
      | refine VS.seq ?_
      | (refine VS.keepAt 2 [] ?_; generalize hK : VS _ _ _ = KK; (try simp); (try subst hK); refine VS.region tabOk (id := 2) [] (by kernel_rfl) ?_; generalize hK : VS _ _ _ = KK; simp (maxSteps := 1000000) [hF]; (try subst hK); try (refine VS.keep [4, 5] ?_; generalize hK : VS _ _ _ = KK; simp; (try subst hK)))
      | (refine VS.cond ?_; generalize hK1 : VS _ _ _ = KK1; generalize hK2 : VS _ _ _ = KK2; simp (maxSteps := 1000000) [hF]; (try subst hK1); (try subst hK2))
    try refine VS.ret ?_
    repeat first | refine blockN_ret ?_ | refine loopN_ret ?_
    refine endK.of [4, 5] [] [] (by simp [hF]) (by simp [covers, mpre]) ?_
    simp [hF, retK, hc]
  | true =>
    obtain ⟨k, rfl, hk⟩ := isT_nat ht
    have hn := dTgs_nth (o := false) hk
    by_cases h1 : h.things[k].owner = -2
    · have hc : shareableOf h k = (false, 3) := by simp [shareableOf, ht, hk, h1]
      refine (has_s1 h true k).call [(0, [])] (by simp) (by simp (maxSteps := 1000000) [hF, ht]) (by simp (maxSteps := 1000000) [hF, ht]) (by simp (maxSteps := 1000000) [hF, ht]) (by simp) ?_
      rintro av X κ ⟨rfl, rfl, rfl⟩
      generalize hK : VS _ _ _ = KK; simp (maxSteps := 1000000) [hF, ht]; (try subst hK)
      repeat first
        | refine VS.seq ?_
        | (refine VS.keepAt 3 [0, 1] ?_; generalize hK : VS _ _ _ = KK; (try simp); (try subst hK); refine VS.region tabOk (id := 3) [] (by kernel_rfl) ?_; generalize hK : VS _ _ _ = KK; simp (maxSteps := 1000000) [hF, dHI, hn, hk, h1]; (try subst hK); try (refine VS.keep [0, 1, 12] ?_; generalize hK : VS _ _ _ = KK; simp; (try subst hK)))
        | (refine VS.keepAt 4 [] ?_; generalize hK : VS _ _ _ = KK; (try simp); (try subst hK); refine VS.region tabOk (id := 4) [] (by kernel_rfl) ?_; generalize hK : VS _ _ _ = KK; simp (maxSteps := 1000000) [hF, dHI, hn, hk, h1]; (try subst hK); try (refine VS.keep [4, 5] ?_; generalize hK : VS _ _ _ = KK; simp; (try subst hK)))
        | (refine VS.cond ?_; generalize hK1 : VS _ _ _ = KK1; generalize hK2 : VS _ _ _ = KK2; simp (maxSteps := 1000000) [hF, dHI, hn, hk, h1]; (try subst hK1); (try subst hK2))
      try refine VS.ret ?_
      repeat first | refine blockN_ret ?_ | refine loopN_ret ?_
      refine endK.of [4, 5] [] [] (by simp [hF]) (by simp [covers, mpre]) ?_
      simp [hF, retK, hc]
    · have hc : shareableOf h k = (shbl h.things k, 0) := by simp [shareableOf, ht, hk, h1]
      refine (has_s1 h true k).call [(0, [])] (by simp) (by simp (maxSteps := 1000000) [hF, ht]) (by simp (maxSteps := 1000000) [hF, ht]) (by simp (maxSteps := 1000000) [hF, ht]) (by simp) ?_
      rintro av X κ ⟨rfl, rfl, rfl⟩
      generalize hK : VS _ _ _ = KK; simp (maxSteps := 1000000) [hF, ht]; (try subst hK)
      repeat first
        | refine VS.seq ?_
        | refine VS.skip ?_
        | refine VS.nil ?_
        | (refine VS.keepAt 3 [0, 1] ?_; generalize hK : VS _ _ _ = KK; (try simp); (try subst hK); refine VS.region tabOk (id := 3) [] (by kernel_rfl) ?_; generalize hK : VS _ _ _ = KK; simp (maxSteps := 1000000) [hF, dHI, hn, hk, h1]; (try subst hK); try (refine VS.keep [0, 1, 12] ?_; generalize hK : VS _ _ _ = KK; simp; (try subst hK)))
        | (refine VS.keepAt 5 [0, 1] ?_; generalize hK : VS _ _ _ = KK; (try simp); (try subst hK); refine VS.region tabOk (id := 5) [] (by kernel_rfl) ?_; generalize hK : VS _ _ _ = KK; simp (maxSteps := 1000000) [hF, dHI, hn, hk, h1]; (try subst hK); try (refine VS.keep [4, 5] ?_; generalize hK : VS _ _ _ = KK; simp; (try subst hK)))
        | (refine VS.cond ?_; generalize hK1 : VS _ _ _ = KK1; generalize hK2 : VS _ _ _ = KK2; simp (maxSteps := 1000000) [hF, dHI, hn, hk, h1]; (try subst hK1); (try subst hK2))
      refine (shareable_ok h hok k hk).call [] (by simp) (by simp (maxSteps := 1000000) [hF, dHI]) (by simp (maxSteps := 1000000) [hF, dHI]) (by simp (maxSteps := 1000000) [hF, dHI]) (by simp) ?_
      rintro av X κ ⟨rfl, rfl, rfl⟩
      generalize hK : VS _ _ _ = KK; simp (maxSteps := 1000000) [hF, dHI]; (try subst hK)
      try refine VS.ret ?_
      repeat first | refine blockN_ret ?_ | refine loopN_ret ?_
      refine endK.of [4, 5] [] [] (by simp [hF]) (by simp [covers, mpre]) ?_
      simp [hF, retK, hc]
end Go.Proofs.Ytkkbcpcihadkhaa

/- The error of sending; whether others hold on. -/
namespace Go.Proofs.Ytkkbcpcihadkhaa
set_option linter.all false
open Go.Vc Go.Proofs
set_option linter.unusedSimpArgs false
set_option linter.unusedVariables false
set_option maxRecDepth 100000
set_option maxHeartbeats 4000000
attribute [local irreducible] CallW EqK

/- (*cabochon/isolate.House).sends -/
theorem sends_ok (h : Hs) (who to x : Int) : Meets Try.prog 45 [] (.cons (avH h) (.cons (avInt who) (.cons (avInt to) (.cons (avInt x) .nil))))
    fun av X κ => av = avInt (sendsOf h who to x) ∧ X = [] ∧ κ = [] := by
  refine Meets.of_vs tabOk Try.func45 (body := ?_) ?_ (by kernel_rfl) Try.ntmps45 (rs := [.tmp 8]) (by kernel_rfl) rfl (by simp [AV.len]) (by simp only [envOf]; exact rfl) ?_
  rotate_left
  · rfl
  intro w0 I0 F0 hF
  repeat first
    | refine VS.seq ?_
    | refine VS.block ?_
    | (refine VS.keepAt 0 [0, 1, 2, 3] ?_; generalize hK : VS _ _ _ = KK; (try simp); (try subst hK); refine VS.region tabOk (id := 0) [] (by kernel_rfl) ?_; generalize hK : VS _ _ _ = KK; simp (maxSteps := 1000000) [hF]; (try subst hK); try (refine VS.keep [0, 1, 2, 3] ?_; generalize hK : VS _ _ _ = KK; simp; (try subst hK)))
    | (refine VS.keepAt 1 [0, 1, 2, 3] ?_; generalize hK : VS _ _ _ = KK; (try simp); (try subst hK); refine VS.region tabOk (id := 1) [(4, 14), (10, 20)] (by kernel_rfl) ?_; generalize hK : VS _ _ _ = KK; simp (maxSteps := 1000000) [hF]; (try subst hK); try (refine VS.keep [0, 1, 2, 3, 9] ?_; generalize hK : VS _ _ _ = KK; simp; (try subst hK)))
  cases hw : isR h who with
  | false =>
    have hc : sendsOf h who to x = 1 := by simp [sendsOf, hw]
    refine (is_ok h who).call [] (by simp) (by simp (maxSteps := 1000000) [hF, hw]) (by simp (maxSteps := 1000000) [hF, hw]) (by simp (maxSteps := 1000000) [hF, hw]) (by simp) ?_
    rintro av X κ ⟨rfl, rfl, rfl⟩
    generalize hK : VS _ _ _ = KK; simp (maxSteps := 1000000) [hF, hw]; (try subst hK)
    repeat first
      | refine VS.seq ?_
      | (refine VS.keepAt 2 [] ?_; generalize hK : VS _ _ _ = KK; (try simp); (try subst hK); refine VS.region tabOk (id := 2) [] (by kernel_rfl) ?_; generalize hK : VS _ _ _ = KK; simp (maxSteps := 1000000) [hF]; (try subst hK); try (refine VS.keep [8] ?_; generalize hK : VS _ _ _ = KK; simp; (try subst hK)))
      | (refine VS.cond ?_; generalize hK1 : VS _ _ _ = KK1; generalize hK2 : VS _ _ _ = KK2; simp (maxSteps := 1000000) [hF]; (try subst hK1); (try subst hK2))
    try refine VS.ret ?_
    repeat first | refine blockN_ret ?_ | refine loopN_ret ?_
    refine endK.of [8] [] [] (by simp [hF]) (by simp [covers, mpre]) ?_
    simp [hF, retK, hc]
  | true =>
    obtain ⟨w, rfl, hwl⟩ := isR_nat hw
    refine (is_ok h w).call [] (by simp) (by simp (maxSteps := 1000000) [hF, hw]) (by simp (maxSteps := 1000000) [hF, hw]) (by simp (maxSteps := 1000000) [hF, hw]) (by simp) ?_
    rintro av X κ ⟨rfl, rfl, rfl⟩
    generalize hK : VS _ _ _ = KK; simp (maxSteps := 1000000) [hF, hw]; (try subst hK)
    cases hto : isR h to with
    | false =>
      have hc : sendsOf h w to x = 1 := by simp [sendsOf, hto]
      refine (is_ok h to).call [] (by simp) (by simp (maxSteps := 1000000) [hF, hto]) (by simp (maxSteps := 1000000) [hF, hto]) (by simp (maxSteps := 1000000) [hF, hto]) (by simp) ?_
      rintro av X κ ⟨rfl, rfl, rfl⟩
      generalize hK : VS _ _ _ = KK; simp (maxSteps := 1000000) [hF, hto]; (try subst hK)
      repeat first
        | refine VS.seq ?_
        | (refine VS.keepAt 2 [] ?_; generalize hK : VS _ _ _ = KK; (try simp); (try subst hK); refine VS.region tabOk (id := 2) [] (by kernel_rfl) ?_; generalize hK : VS _ _ _ = KK; simp (maxSteps := 1000000) [hF]; (try subst hK); try (refine VS.keep [8] ?_; generalize hK : VS _ _ _ = KK; simp; (try subst hK)))
        | (refine VS.cond ?_; generalize hK1 : VS _ _ _ = KK1; generalize hK2 : VS _ _ _ = KK2; simp (maxSteps := 1000000) [hF]; (try subst hK1); (try subst hK2))
      try refine VS.ret ?_
      repeat first | refine blockN_ret ?_ | refine loopN_ret ?_
      refine endK.of [8] [] [] (by simp [hF]) (by simp [covers, mpre]) ?_
      simp [hF, retK, hc]
    | true =>
      obtain ⟨t, rfl, htl⟩ := isR_nat hto
      refine (is_ok h t).call [] (by simp) (by simp (maxSteps := 1000000) [hF, hto]) (by simp (maxSteps := 1000000) [hF, hto]) (by simp (maxSteps := 1000000) [hF, hto]) (by simp) ?_
      rintro av X κ ⟨rfl, rfl, rfl⟩
      generalize hK : VS _ _ _ = KK; simp (maxSteps := 1000000) [hF, hto]; (try subst hK)
      cases hx : isT h x with
      | false =>
        have hc : sendsOf h w t x = 1 := by simp [sendsOf, hx]
        refine (has_s1 h true x).call [(0, [])] (by simp) (by simp (maxSteps := 1000000) [hF, hx]) (by simp (maxSteps := 1000000) [hF, hx]) (by simp (maxSteps := 1000000) [hF, hx]) (by simp) ?_
        rintro av X κ ⟨rfl, rfl, rfl⟩
        generalize hK : VS _ _ _ = KK; simp (maxSteps := 1000000) [hF, hx]; (try subst hK)
        repeat first
          | refine VS.seq ?_
          | (refine VS.keepAt 2 [] ?_; generalize hK : VS _ _ _ = KK; (try simp); (try subst hK); refine VS.region tabOk (id := 2) [] (by kernel_rfl) ?_; generalize hK : VS _ _ _ = KK; simp (maxSteps := 1000000) [hF]; (try subst hK); try (refine VS.keep [8] ?_; generalize hK : VS _ _ _ = KK; simp; (try subst hK)))
          | (refine VS.cond ?_; generalize hK1 : VS _ _ _ = KK1; generalize hK2 : VS _ _ _ = KK2; simp (maxSteps := 1000000) [hF]; (try subst hK1); (try subst hK2))
        try refine VS.ret ?_
        repeat first | refine blockN_ret ?_ | refine loopN_ret ?_
        refine endK.of [8] [] [] (by simp [hF]) (by simp [covers, mpre]) ?_
        simp [hF, retK, hc]
      | true =>
        obtain ⟨k, rfl, hk⟩ := isT_nat hx
        have hn1 := dRms_nth (o := false) hwl
        have hn2 := dRms_nth (o := false) htl
        have hov1 : overB h w = h.rooms[w].over := by simp [overB, hwl]
        have hov2 : overB h t = h.rooms[t].over := by simp [overB, htl]
        cases ho1 : h.rooms[w].over with
        | true =>
          have hc : sendsOf h w t k = 8 := by simp [sendsOf, hw, hto, hx, hov1, ho1]
          rw [ho1] at hn1
          refine (has_s1 h true k).call [(0, [])] (by simp) (by simp (maxSteps := 1000000) [hF, hx]) (by simp (maxSteps := 1000000) [hF, hx]) (by simp (maxSteps := 1000000) [hF, hx]) (by simp) ?_
          rintro av X κ ⟨rfl, rfl, rfl⟩
          generalize hK : VS _ _ _ = KK; simp (maxSteps := 1000000) [hF, hx]; (try subst hK)
          repeat first
            | refine VS.seq ?_
            | (refine VS.keepAt 3 [0, 1, 2, 3] ?_; generalize hK : VS _ _ _ = KK; (try simp); (try subst hK); refine VS.region tabOk (id := 3) [(8, 36)] (by kernel_rfl) ?_; generalize hK : VS _ _ _ = KK; simp (maxSteps := 1000000) [hF, dHI, hn1, hwl]; (try subst hK); try (refine VS.keep [0, 1, 2, 3, 27] ?_; generalize hK : VS _ _ _ = KK; simp; (try subst hK)))
            | (refine VS.keepAt 4 [] ?_; generalize hK : VS _ _ _ = KK; (try simp); (try subst hK); refine VS.region tabOk (id := 4) [] (by kernel_rfl) ?_; generalize hK : VS _ _ _ = KK; simp (maxSteps := 1000000) [hF, dHI, hn1, hwl]; (try subst hK); try (refine VS.keep [8] ?_; generalize hK : VS _ _ _ = KK; simp; (try subst hK)))
            | (refine VS.cond ?_; generalize hK1 : VS _ _ _ = KK1; generalize hK2 : VS _ _ _ = KK2; simp (maxSteps := 1000000) [hF, dHI, hn1, hwl]; (try subst hK1); (try subst hK2))
          try refine VS.ret ?_
          repeat first | refine blockN_ret ?_ | refine loopN_ret ?_
          refine endK.of [8] [] [] (by simp [hF]) (by simp [covers, mpre]) ?_
          simp [hF, retK, hc]
        | false =>
          rw [ho1] at hn1
          cases ho2 : h.rooms[t].over with
          | true =>
            have hc : sendsOf h w t k = 8 := by simp [sendsOf, hw, hto, hx, hov2, ho2]
            rw [ho2] at hn2
            refine (has_s1 h true k).call [(0, [])] (by simp) (by simp (maxSteps := 1000000) [hF, hx]) (by simp (maxSteps := 1000000) [hF, hx]) (by simp (maxSteps := 1000000) [hF, hx]) (by simp) ?_
            rintro av X κ ⟨rfl, rfl, rfl⟩
            generalize hK : VS _ _ _ = KK; simp (maxSteps := 1000000) [hF, hx]; (try subst hK)
            repeat first
              | refine VS.seq ?_
              | (refine VS.keepAt 3 [0, 1, 2, 3] ?_; generalize hK : VS _ _ _ = KK; (try simp); (try subst hK); refine VS.region tabOk (id := 3) [(8, 36)] (by kernel_rfl) ?_; generalize hK : VS _ _ _ = KK; simp (maxSteps := 1000000) [hF, dHI, hn1, hwl, hn2, htl]; (try subst hK); try (refine VS.keep [0, 1, 2, 3, 27] ?_; generalize hK : VS _ _ _ = KK; simp; (try subst hK)))
              | (refine VS.keepAt 4 [] ?_; generalize hK : VS _ _ _ = KK; (try simp); (try subst hK); refine VS.region tabOk (id := 4) [] (by kernel_rfl) ?_; generalize hK : VS _ _ _ = KK; simp (maxSteps := 1000000) [hF, dHI, hn1, hwl, hn2, htl]; (try subst hK); try (refine VS.keep [8] ?_; generalize hK : VS _ _ _ = KK; simp; (try subst hK)))
              | (refine VS.cond ?_; generalize hK1 : VS _ _ _ = KK1; generalize hK2 : VS _ _ _ = KK2; simp (maxSteps := 1000000) [hF, dHI, hn1, hwl, hn2, htl]; (try subst hK1); (try subst hK2))
            try refine VS.ret ?_
            repeat first | refine blockN_ret ?_ | refine loopN_ret ?_
            refine endK.of [8] [] [] (by simp [hF]) (by simp [covers, mpre]) ?_
            simp [hF, retK, hc]
          | false =>
            rw [ho2] at hn2
            refine (has_s1 h true k).call [(0, [])] (by simp) (by simp (maxSteps := 1000000) [hF, hx]) (by simp (maxSteps := 1000000) [hF, hx]) (by simp (maxSteps := 1000000) [hF, hx]) (by simp) ?_
            rintro av X κ ⟨rfl, rfl, rfl⟩
            generalize hK : VS _ _ _ = KK; simp (maxSteps := 1000000) [hF, hx]; (try subst hK)
            repeat first
              | refine VS.seq ?_
              | (refine VS.keepAt 3 [0, 1, 2, 3] ?_; generalize hK : VS _ _ _ = KK; (try simp); (try subst hK); refine VS.region tabOk (id := 3) [(8, 36)] (by kernel_rfl) ?_; generalize hK : VS _ _ _ = KK; simp (maxSteps := 1000000) [hF, dHI, hn1, hwl, hn2, htl]; (try subst hK); try (refine VS.keep [0, 1, 2, 3, 27] ?_; generalize hK : VS _ _ _ = KK; simp; (try subst hK)))
              | (refine VS.keepAt 5 [0, 1, 2, 3] ?_; generalize hK : VS _ _ _ = KK; (try simp); (try subst hK); refine VS.region tabOk (id := 5) [] (by kernel_rfl) ?_; generalize hK : VS _ _ _ = KK; simp (maxSteps := 1000000) [hF, dHI, hn1, hwl, hn2, htl]; (try subst hK); try (refine VS.keep [0, 2, 46] ?_; generalize hK : VS _ _ _ = KK; simp; (try subst hK)))
              | (refine VS.cond ?_; generalize hK1 : VS _ _ _ = KK1; generalize hK2 : VS _ _ _ = KK2; simp (maxSteps := 1000000) [hF, dHI, hn1, hwl, hn2, htl]; (try subst hK1); (try subst hK2))
            cases hs : seesB h w k with
            | false =>
              have hc : sendsOf h w t k = 3 := by simp [sendsOf, hw, hto, hx, hov1, ho1, hov2, ho2, hs]
              refine (sees_ok h w k hk).call [] (by simp) (by simp (maxSteps := 1000000) [hF, hs, dHI]) (by simp (maxSteps := 1000000) [hF, hs, dHI]) (by simp (maxSteps := 1000000) [hF, hs, dHI]) (by simp) ?_
              rintro av X κ ⟨rfl, rfl, rfl⟩
              generalize hK : VS _ _ _ = KK; simp (maxSteps := 1000000) [hF, hs, dHI]; (try subst hK)
              repeat first
                | refine VS.seq ?_
                | (refine VS.keepAt 6 [] ?_; generalize hK : VS _ _ _ = KK; (try simp); (try subst hK); refine VS.region tabOk (id := 6) [] (by kernel_rfl) ?_; generalize hK : VS _ _ _ = KK; simp (maxSteps := 1000000) [hF, hs]; (try subst hK); try (refine VS.keep [8] ?_; generalize hK : VS _ _ _ = KK; simp; (try subst hK)))
                | (refine VS.cond ?_; generalize hK1 : VS _ _ _ = KK1; generalize hK2 : VS _ _ _ = KK2; simp (maxSteps := 1000000) [hF, hs]; (try subst hK1); (try subst hK2))
              try refine VS.ret ?_
              repeat first | refine blockN_ret ?_ | refine loopN_ret ?_
              refine endK.of [8] [] [] (by simp [hF]) (by simp [covers, mpre]) ?_
              simp [hF, retK, hc]
            | true =>
              refine (sees_ok h w k hk).call [] (by simp) (by simp (maxSteps := 1000000) [hF, hs, dHI]) (by simp (maxSteps := 1000000) [hF, hs, dHI]) (by simp (maxSteps := 1000000) [hF, hs, dHI]) (by simp) ?_
              rintro av X κ ⟨rfl, rfl, rfl⟩
              generalize hK : VS _ _ _ = KK; simp (maxSteps := 1000000) [hF, hs, dHI]; (try subst hK)
              by_cases hq : 50 ≤ h.rooms[t].queue.length
              · have hc : sendsOf h w t k = 9 := by simp [sendsOf, hw, hto, hx, hov1, ho1, hov2, ho2, hs, htl, hq]
                have hqi : (50 : Int) ≤ h.rooms[t].queue.length := by omega
                repeat first
                  | refine VS.seq ?_
                  | (refine VS.keepAt 7 [0, 2] ?_; generalize hK : VS _ _ _ = KK; (try simp); (try subst hK); refine VS.region tabOk (id := 7) [] (by kernel_rfl) ?_; generalize hK : VS _ _ _ = KK; simp (maxSteps := 1000000) [hF, hs, dHI, hn2, htl, hqi]; (try subst hK); try (refine VS.keep [52] ?_; generalize hK : VS _ _ _ = KK; simp; (try subst hK)))
                  | (refine VS.keepAt 8 [] ?_; generalize hK : VS _ _ _ = KK; (try simp); (try subst hK); refine VS.region tabOk (id := 8) [] (by kernel_rfl) ?_; generalize hK : VS _ _ _ = KK; simp (maxSteps := 1000000) [hF, hs, dHI, hn2, htl, hqi]; (try subst hK); try (refine VS.keep [8] ?_; generalize hK : VS _ _ _ = KK; simp; (try subst hK)))
                  | (refine VS.cond ?_; generalize hK1 : VS _ _ _ = KK1; generalize hK2 : VS _ _ _ = KK2; simp (maxSteps := 1000000) [hF, hs, dHI, hn2, htl, hqi]; (try subst hK1); (try subst hK2))
                try refine VS.ret ?_
                repeat first | refine blockN_ret ?_ | refine loopN_ret ?_
                refine endK.of [8] [] [] (by simp [hF]) (by simp [covers, mpre]) ?_
                simp [hF, retK, hc]
              · have hc : sendsOf h w t k = 0 := by simp [sendsOf, hw, hto, hx, hov1, ho1, hov2, ho2, hs, htl, hq]
                have hqi : ¬ (50 : Int) ≤ h.rooms[t].queue.length := by omega
                repeat first
                  | refine VS.seq ?_
                  | refine VS.skip ?_
                  | refine VS.nil ?_
                  | (refine VS.keepAt 7 [0, 2] ?_; generalize hK : VS _ _ _ = KK; (try simp); (try subst hK); refine VS.region tabOk (id := 7) [] (by kernel_rfl) ?_; generalize hK : VS _ _ _ = KK; simp (maxSteps := 1000000) [hF, hs, dHI, hn2, htl, hqi]; (try subst hK); try (refine VS.keep [52] ?_; generalize hK : VS _ _ _ = KK; simp; (try subst hK)))
                  | (refine VS.keepAt 9 [] ?_; generalize hK : VS _ _ _ = KK; (try simp); (try subst hK); refine VS.region tabOk (id := 9) [] (by kernel_rfl) ?_; generalize hK : VS _ _ _ = KK; simp (maxSteps := 1000000) [hF, hs, dHI, hn2, htl, hqi]; (try subst hK); try (refine VS.keep [8] ?_; generalize hK : VS _ _ _ = KK; simp; (try subst hK)))
                  | (refine VS.cond ?_; generalize hK1 : VS _ _ _ = KK1; generalize hK2 : VS _ _ _ = KK2; simp (maxSteps := 1000000) [hF, hs, dHI, hn2, htl, hqi]; (try subst hK1); (try subst hK2))
                try refine VS.ret ?_
                repeat first | refine blockN_ret ?_ | refine loopN_ret ?_
                refine endK.of [8] [] [] (by simp [hF]) (by simp [covers, mpre]) ?_
                simp [hF, retK, hc]

/- (*cabochon/isolate.House).tied$1 -/
theorem tied1_ok (l : List Int) (hl : l.length ≤ 100000000) (x : Int) : Meets Try.prog 84 [dBox l] (.cons (avInt x) (.cons (.ptr 0 [.d]) .nil)) fun av X κ => av = avBool (hasN l x) ∧ X = [dBox l] ∧ κ = [] := by
  refine Meets.of_vs tabOk Try.func84 (body := ?_) ?_ (by kernel_rfl) Try.ntmps84 (rs := [.tmp 3]) (by kernel_rfl) rfl (by simp [AV.len]) (by simp only [envOf]; exact rfl) ?_
  rotate_left
  · rfl
  intro w0 I0 F0 hF
  repeat first
    | refine VS.seq ?_
    | (refine VS.keepAt 0 [0, 1] ?_; generalize hK : VS _ _ _ = KK; (try simp); (try subst hK); refine VS.region tabOk (id := 0) [] (by kernel_rfl) ?_; generalize hK : VS _ _ _ = KK; simp (maxSteps := 1000000) [hF, dBox]; (try subst hK); try (refine VS.keep [0, 1] ?_; generalize hK : VS _ _ _ = KK; simp; (try subst hK)))
    | (refine VS.keepAt 1 [0, 1] ?_; generalize hK : VS _ _ _ = KK; (try simp); (try subst hK); refine VS.region tabOk (id := 1) [] (by kernel_rfl) ?_; generalize hK : VS _ _ _ = KK; simp (maxSteps := 1000000) [hF, dBox]; (try subst hK); try (refine VS.keep [3] ?_; generalize hK : VS _ _ _ = KK; simp; (try subst hK)))
  refine (contains_ok false l x hl).call [] (by simp) (by simp (maxSteps := 1000000) [hF]) (by simp (maxSteps := 1000000) [hF]) (by simp (maxSteps := 1000000) [hF]) (by simp) ?_
  rintro av X κ ⟨rfl, rfl, rfl⟩
  generalize hK : VS _ _ _ = KK; simp (maxSteps := 1000000) [hF]; (try subst hK)
  try refine VS.ret ?_
  repeat first | refine blockN_ret ?_ | refine loopN_ret ?_
  refine endK.of [3] [0] [] (by simp [hF]) (by simp [covers, mpre]) ?_
  simp [hF, retK, dBox]
/- (*cabochon/isolate.House).tied$2 -/
theorem tied2_ok (l : List Int) (hl : l.length ≤ 100000000) (x : Int) : Meets Try.prog 85 [dBox l] (.cons (avInt x) (.cons (.ptr 0 [.d]) .nil)) fun av X κ => av = avBool (hasN l x) ∧ X = [dBox l] ∧ κ = [] := by
  refine Meets.of_vs tabOk Try.func85 (body := ?_) ?_ (by kernel_rfl) Try.ntmps85 (rs := [.tmp 3]) (by kernel_rfl) rfl (by simp [AV.len]) (by simp only [envOf]; exact rfl) ?_
  rotate_left
  · rfl
  intro w0 I0 F0 hF
  repeat first
    | refine VS.seq ?_
    | (refine VS.keepAt 0 [0, 1] ?_; generalize hK : VS _ _ _ = KK; (try simp); (try subst hK); refine VS.region tabOk (id := 0) [] (by kernel_rfl) ?_; generalize hK : VS _ _ _ = KK; simp (maxSteps := 1000000) [hF, dBox]; (try subst hK); try (refine VS.keep [0, 1] ?_; generalize hK : VS _ _ _ = KK; simp; (try subst hK)))
    | (refine VS.keepAt 1 [0, 1] ?_; generalize hK : VS _ _ _ = KK; (try simp); (try subst hK); refine VS.region tabOk (id := 1) [] (by kernel_rfl) ?_; generalize hK : VS _ _ _ = KK; simp (maxSteps := 1000000) [hF, dBox]; (try subst hK); try (refine VS.keep [3] ?_; generalize hK : VS _ _ _ = KK; simp; (try subst hK)))
  refine (contains_ok false l x hl).call [] (by simp) (by simp (maxSteps := 1000000) [hF]) (by simp (maxSteps := 1000000) [hF]) (by simp (maxSteps := 1000000) [hF]) (by simp) ?_
  rintro av X κ ⟨rfl, rfl, rfl⟩
  generalize hK : VS _ _ _ = KK; simp (maxSteps := 1000000) [hF]; (try subst hK)
  try refine VS.ret ?_
  repeat first | refine blockN_ret ?_ | refine loopN_ret ?_
  refine endK.of [3] [0] [] (by simp [hF]) (by simp [covers, mpre]) ?_
  simp [hF, retK, dBox]

/- (*cabochon/isolate.House).tied -/
theorem tied_i (h : Hs) (hok : Hok h) (who : Nat) (hw : who < h.rooms.length) (l : List Int) (e : Bool) (hl : l.length ≤ 400) : Meets Try.prog 51 [] (.cons (avH h) (.cons (avInt who) (.cons (.imm 1 (dInts l) e) .nil)))
    fun av X κ => av = avBool (tiedOf h who l) ∧ X = [] ∧ κ = [] := by
  have hbd := hok.things
  refine Meets.of_vs tabOk Try.func51 (body := ?_) ?_ (by kernel_rfl) Try.ntmps51 (rs := [.tmp 6]) (by kernel_rfl) rfl (by simp [AV.len]) (by simp only [envOf]; exact rfl) ?_
  rotate_left
  · rfl
  intro w0 I0 F0 hF
  repeat first
    | refine VS.seq ?_
    | refine VS.block ?_
    | (refine VS.keepAt 0 [0, 1, 2] ?_; generalize hK : VS _ _ _ = KK; (try simp); (try subst hK); refine VS.region tabOk (id := 0) [] (by kernel_rfl) ?_; generalize hK : VS _ _ _ = KK; simp (maxSteps := 1000000) [hF, dHI]; (try subst hK); try (refine VS.keep [0, 1, 5] ?_; generalize hK : VS _ _ _ = KK; simp; (try subst hK)))
    | (refine VS.keepAt 1 [0, 1, 5] ?_; generalize hK : VS _ _ _ = KK; (try simp); (try subst hK); refine VS.region tabOk (id := 1) [] (by kernel_rfl) ?_; generalize hK : VS _ _ _ = KK; simp (maxSteps := 1000000) [hF, dHI]; (try subst hK); try (refine VS.keep [0, 1, 5, 12, 13, 14] ?_; generalize hK : VS _ _ _ = KK; simp; (try subst hK)))
  refine VS.rounds (fun m st => ∃ (i : Nat), i + m = h.things.length ∧ (∀ y, y < i → tiedAt h who l y = false) ∧ st = ⟨[(0, avH h), (1, avInt who), (5, .ptr 0 [.d]), (12, .imm 5 (dTgs false h.things) false), (13, avInt h.things.length), (14, avInt i)], [dBox l], [], []⟩) ⟨h.things.length, 0, by omega, by omega, by simp [dBox, dHI]⟩ ?_
  rintro m st ⟨i, hi, hall, rfl⟩
  repeat first
    | refine VS.seq ?_
    | (refine VS.keepAt 2 [0, 1, 5, 12, 13, 14] ?_; generalize hK : VS _ _ _ = KK; (try simp); (try subst hK); refine VS.region tabOk (id := 2) [] (by kernel_rfl) ?_; generalize hK : VS _ _ _ = KK; simp (maxSteps := 1000000) [hF]; (try subst hK); try (refine VS.keep [0, 1, 5, 12, 13, 14, 15] ?_; generalize hK : VS _ _ _ = KK; simp; (try subst hK)))
    | (refine VS.cond ?_; generalize hK1 : VS _ _ _ = KK1; generalize hK2 : VS _ _ _ = KK2; simp (maxSteps := 1000000) [hF]; (try subst hK1); (try subst hK2))
  refine ⟨fun hlt => ?_, fun hge => ?_⟩
  · have hn := dTgs_nth (o := false) hlt
    have hil := hok.few _ (List.getElem_mem hlt)
    have hw1 : IntKind.i64.wrap ((i : Int) + 1) = (i + 1 : Nat) := by rw [IntWalk.i64_in _ (by omega)]; rfl
    by_cases ho : h.things[i].owner = who
    · repeat first
        | refine VS.seq ?_
        | refine VS.skip ?_
        | refine VS.block ?_
        | (refine VS.keepAt 3 [0, 1, 5, 12, 13, 14] ?_; generalize hK : VS _ _ _ = KK; (try simp); (try subst hK); refine VS.region tabOk (id := 3) [] (by kernel_rfl) ?_; generalize hK : VS _ _ _ = KK; simp (maxSteps := 1000000) [hF, hn, hlt]; (try subst hK); try (refine VS.keep [0, 1, 5, 7, 8, 12, 13, 14] ?_; generalize hK : VS _ _ _ = KK; simp; (try subst hK)))
      repeat first
        | (refine VS.keepAt 4 [0, 1, 5, 7, 8, 12, 13, 14] ?_; generalize hK : VS _ _ _ = KK; (try simp); (try subst hK); refine VS.region tabOk (id := 4) [(4, 23), (10, 29)] (by kernel_rfl) ?_; generalize hK : VS _ _ _ = KK; simp (maxSteps := 1000000) [hF, hn, hlt, ho, dBox]; (try subst hK); try (refine VS.keep [0, 1, 5, 12, 13, 14, 34] ?_; generalize hK : VS _ _ _ = KK; simp; (try subst hK)))
      cases hc : hasN l (i : Int) with
      | true =>
        have ht : tiedAt h who l i = false := by simp [tiedAt, hc]
        refine (contains_ok false l i (by omega)).call [] (by simp) (by simp (maxSteps := 1000000) [hF, hc]) (by simp (maxSteps := 1000000) [hF, hc]) (by simp (maxSteps := 1000000) [hF, hc]) (by simp) ?_
        rintro av X κ ⟨rfl, rfl, rfl⟩
        generalize hK : VS _ _ _ = KK; simp (maxSteps := 1000000) [hF, hc]; (try subst hK)
        repeat first
          | refine VS.skip ?_
          | refine VS.nil ?_
          | refine blockN_normal ?_
          | refine loopN_normal ?_
          | (refine VS.keepAt 6 [0, 1, 5, 12, 13, 14] ?_; generalize hK : VS _ _ _ = KK; (try simp); (try subst hK); refine VS.region tabOk (id := 6) [] (by kernel_rfl) ?_; generalize hK : VS _ _ _ = KK; simp (maxSteps := 1000000) [hF, hc, hw1]; (try subst hK); try (refine VS.keep [0, 1, 5, 12, 13, 14] ?_; generalize hK : VS _ _ _ = KK; simp; (try subst hK)))
          | (refine VS.cond ?_; generalize hK1 : VS _ _ _ = KK1; generalize hK2 : VS _ _ _ = KK2; simp (maxSteps := 1000000) [hF, hc, hw1]; (try subst hK1); (try subst hK2))
        refine nextK.of [0, 1, 5, 12, 13, 14] [0] (m - 1) (by omega) (by simp [hF]) ?_
        refine ⟨i + 1, by omega, fun y hy => ?_, by simp [dBox]⟩
        rcases Nat.lt_or_ge y i with h' | h'
        · exact hall y h'
        · obtain rfl : y = i := by omega
          exact ht
      | false =>
        refine (contains_ok false l i (by omega)).call [] (by simp) (by simp (maxSteps := 1000000) [hF, hc]) (by simp (maxSteps := 1000000) [hF, hc]) (by simp (maxSteps := 1000000) [hF, hc]) (by simp) ?_
        rintro av X κ ⟨rfl, rfl, rfl⟩
        generalize hK : VS _ _ _ = KK; simp (maxSteps := 1000000) [hF, hc]; (try subst hK)
        have htt : tiedAt h who l i = h.things[i].items.any (hasN l) := by simp [tiedAt, hc, hlt, ho]
        refine (containsFunc_ti false h.things[i].items l (by omega) (hasN l) (fun j hj => tied1_ok l (by omega) _)).call [(0, [])] (by simp) (by simp (maxSteps := 1000000) [hF, dBox]) (by simp (maxSteps := 1000000) [hF, dBox]) (by simp (maxSteps := 1000000) [hF, dBox]) (by simp) ?_
        rintro av X κ ⟨rfl, rfl, rfl⟩
        generalize hK : VS _ _ _ = KK; simp (maxSteps := 1000000) [hF, dBox]; (try subst hK)
        cases ha : h.things[i].items.any (hasN l) with
        | true =>
          have hc2 : tiedOf h who l = true := by
            have : (List.range h.things.length).any (tiedAt h who l) = true := List.any_eq_true.2 ⟨i, by simpa using hlt, by rw [htt, ha]⟩
            simp [tiedOf, this]
          repeat first
            | refine VS.seq ?_
            | (refine VS.keepAt 5 [] ?_; generalize hK : VS _ _ _ = KK; (try simp); (try subst hK); refine VS.region tabOk (id := 5) [] (by kernel_rfl) ?_; generalize hK : VS _ _ _ = KK; simp (maxSteps := 1000000) [hF, ha]; (try subst hK); try (refine VS.keep [6] ?_; generalize hK : VS _ _ _ = KK; simp; (try subst hK)))
            | (refine VS.cond ?_; generalize hK1 : VS _ _ _ = KK1; generalize hK2 : VS _ _ _ = KK2; simp (maxSteps := 1000000) [hF, ha]; (try subst hK1); (try subst hK2))
          try refine VS.ret ?_
          repeat first | refine blockN_ret ?_ | refine loopN_ret ?_
          refine endK.of [6] [] [] (by simp [hF]) (by simp [covers, mpre]) ?_
          simp [hF, retK, hc2]
        | false =>
          repeat first
            | refine VS.skip ?_
            | refine VS.nil ?_
            | refine blockN_normal ?_
            | refine loopN_normal ?_
            | (refine VS.keepAt 6 [0, 1, 5, 12, 13, 14] ?_; generalize hK : VS _ _ _ = KK; (try simp); (try subst hK); refine VS.region tabOk (id := 6) [] (by kernel_rfl) ?_; generalize hK : VS _ _ _ = KK; simp (maxSteps := 1000000) [hF, ha, hw1]; (try subst hK); try (refine VS.keep [0, 1, 5, 12, 13, 14] ?_; generalize hK : VS _ _ _ = KK; simp; (try subst hK)))
            | (refine VS.cond ?_; generalize hK1 : VS _ _ _ = KK1; generalize hK2 : VS _ _ _ = KK2; simp (maxSteps := 1000000) [hF, ha, hw1]; (try subst hK1); (try subst hK2))
          refine nextK.of [0, 1, 5, 12, 13, 14] [0] (m - 1) (by omega) (by simp [hF]) ?_
          refine ⟨i + 1, by omega, fun y hy => ?_, by simp [dBox]⟩
          rcases Nat.lt_or_ge y i with h' | h'
          · exact hall y h'
          · obtain rfl : y = i := by omega
            rw [htt, ha]
    · have ht : tiedAt h who l i = false := by simp [tiedAt, hlt, ho]
      repeat first
        | refine VS.seq ?_
        | refine VS.skip ?_
        | refine VS.block ?_
        | refine VS.nil ?_
        | refine blockN_normal ?_
        | refine loopN_normal ?_
        | (refine VS.keepAt 3 [0, 1, 5, 12, 13, 14] ?_; generalize hK : VS _ _ _ = KK; (try simp); (try subst hK); refine VS.region tabOk (id := 3) [] (by kernel_rfl) ?_; generalize hK : VS _ _ _ = KK; simp (maxSteps := 1000000) [hF, hn, hlt, ho, hw1]; (try subst hK); try (refine VS.keep [0, 1, 5, 7, 8, 12, 13, 14] ?_; generalize hK : VS _ _ _ = KK; simp; (try subst hK)))
        | (refine VS.keepAt 4 [0, 1, 5, 7, 8, 12, 13, 14] ?_; generalize hK : VS _ _ _ = KK; (try simp); (try subst hK); refine VS.region tabOk (id := 4) [(4, 23), (10, 29)] (by kernel_rfl) ?_; generalize hK : VS _ _ _ = KK; simp (maxSteps := 1000000) [hF, hn, hlt, ho, hw1]; (try subst hK); try (refine VS.keep [0, 1, 5, 12, 13, 14, 34] ?_; generalize hK : VS _ _ _ = KK; simp; (try subst hK)))
        | (refine VS.keepAt 6 [0, 1, 5, 12, 13, 14] ?_; generalize hK : VS _ _ _ = KK; (try simp); (try subst hK); refine VS.region tabOk (id := 6) [] (by kernel_rfl) ?_; generalize hK : VS _ _ _ = KK; simp (maxSteps := 1000000) [hF, hn, hlt, ho, hw1]; (try subst hK); try (refine VS.keep [0, 1, 5, 12, 13, 14] ?_; generalize hK : VS _ _ _ = KK; simp; (try subst hK)))
        | (refine VS.cond ?_; generalize hK1 : VS _ _ _ = KK1; generalize hK2 : VS _ _ _ = KK2; simp (maxSteps := 1000000) [hF, hn, hlt, ho, hw1]; (try subst hK1); (try subst hK2))
      refine nextK.of [0, 1, 5, 12, 13, 14] [0] (m - 1) (by omega) (by simp [hF]) ?_
      refine ⟨i + 1, by omega, fun y hy => ?_, by simp [dBox]⟩
      rcases Nat.lt_or_ge y i with h' | h'
      · exact hall y h'
      · obtain rfl : y = i := by omega
        exact ht
  · have hr : (List.range h.things.length).any (tiedAt h who l) = false := by
      rw [List.any_eq_false]
      intro y hy
      rw [hall y (by rw [List.mem_range] at hy; omega)]; simp
    have hn := dRms_nth (o := false) hw
    have hql := (hok.queues _ (List.getElem_mem hw)).1
    have hc : tiedOf h who l = h.rooms[who].queue.any (hasN l) := by simp [tiedOf, hr, hw]
    repeat first
      | refine VS.seq ?_
      | refine VS.exit ?_
      | (refine VS.keepAt 7 [0, 1, 5] ?_; generalize hK : VS _ _ _ = KK; (try simp); (try subst hK); refine VS.region tabOk (id := 7) [] (by kernel_rfl) ?_; generalize hK : VS _ _ _ = KK; simp (maxSteps := 1000000) [hF, dHI, hn, hw]; (try subst hK); try (refine VS.keep [6] ?_; generalize hK : VS _ _ _ = KK; simp; (try subst hK)))
    refine (containsFunc_ui false h.rooms[who].queue l (by omega) (hasN l) (fun j hj => tied2_ok l (by omega) _)).call [(0, [])] (by simp) (by simp (maxSteps := 1000000) [hF, dBox]) (by simp (maxSteps := 1000000) [hF, dBox]) (by simp (maxSteps := 1000000) [hF, dBox]) (by simp) ?_
    rintro av X κ ⟨rfl, rfl, rfl⟩
    generalize hK : VS _ _ _ = KK; simp (maxSteps := 1000000) [hF, dBox]; (try subst hK)
    try refine VS.ret ?_
    repeat first | refine blockN_ret ?_ | refine loopN_ret ?_
    refine endK.of [6] [] [] (by simp [hF]) (by simp [covers, mpre]) ?_
    simp [hF, retK, hc]
end Go.Proofs.Ytkkbcpcihadkhaa

/- The graph of a thing. -/
namespace Go.Proofs.Ytkkbcpcihadkhaa
set_option linter.all false
open Go.Vc Go.Proofs
set_option linter.unusedSimpArgs false
set_option linter.unusedVariables false
set_option maxRecDepth 100000
set_option maxHeartbeats 4000000
attribute [local irreducible] CallW EqK

def dCl (c : Cl) : D := .agg (.cons (.val (.int .i64 (if c.list = true then 6 else 3))) (.cons (.val (.int .i64 c.word)) (.cons (.val (.string ⟨#[]⟩)) (.cons (.sl true () 1 .nil) (.cons (.sl true () 1 (dInts c.items)) .nil)))))
def dCls (l : List Cl) : D := sq (l.map dCl)
@[simp] theorem dCls_len (l : List Cl) : (dCls l).len = l.length := by simp [dCls]
theorem dCls_push (l : List Cl) (c : Cl) : (dCls l).app (.cons (.agg (.cons (.val (.int .i64 (if c.list = true then 6 else 3))) (.cons (.val (.int .i64 c.word)) (.cons (.val (.string ⟨#[]⟩)) (.cons (.sl true () 1 .nil) (.cons (.sl true () 1 (dInts c.items)) .nil)))))) .nil) = dCls (l ++ [c]) := by
  simp only [dCls, List.map_append, ← sq_app]; rfl

/- (*cabochon/isolate.House).Graph -/
theorem graph_ok (h : Hs) (hok : Hok h) (who x : Int) : Meets Try.prog 15 [] (.cons (avH h) (.cons (avInt who) (.cons (avInt x) .nil)))
    fun av X κ => av = avTwo (.sub 0 [] 0 (graphOf h who x).1.length false) (graphOf h who x).2 ∧ X = [.sl true () 5 (dCls (graphOf h who x).1)] ∧ κ = [] := by
  refine Meets.of_vs tabOk Try.func15 (body := ?_) ?_ (by kernel_rfl) Try.ntmps15 (rs := [.tmp 6, .tmp 7]) (by kernel_rfl) rfl (by simp [AV.len]) (by simp only [envOf]; exact rfl) ?_
  rotate_left
  · rfl
  intro w0 I0 F0 hF
  by_cases hz : askOf h who [x] = 0
  · have ht : isT h x = true := by
      cases ht : isT h x with
      | true => rfl
      | false => simp [askOf, ht] at hz
    obtain ⟨k, rfl, hk⟩ := isT_nat ht
    have hl := reach_len hok hk
    repeat first
      | refine VS.seq ?_
      | (refine VS.keepAt 0 [0, 1, 2] ?_; generalize hK : VS _ _ _ = KK; (try simp); (try subst hK); refine VS.region tabOk (id := 0) [] (by kernel_rfl) ?_; generalize hK : VS _ _ _ = KK; simp (maxSteps := 1000000) [hF]; (try subst hK); try (refine VS.keep [0, 1, 2] ?_; generalize hK : VS _ _ _ = KK; simp; (try subst hK)))
      | (refine VS.keepAt 1 [0, 1, 2] ?_; generalize hK : VS _ _ _ = KK; (try simp); (try subst hK); refine VS.region tabOk (id := 1) [] (by kernel_rfl) ?_; generalize hK : VS _ _ _ = KK; simp (maxSteps := 1000000) [hF]; (try subst hK); try (refine VS.keep [0, 2, 8] ?_; generalize hK : VS _ _ _ = KK; simp; (try subst hK)))
    refine (ask_s1 h who true k).call [(0, [])] (by simp) (by simp (maxSteps := 1000000) [hF, hz]) (by simp (maxSteps := 1000000) [hF, hz]) (by simp (maxSteps := 1000000) [hF, hz]) (by simp) ?_
    rintro av X κ ⟨rfl, rfl, rfl⟩
    generalize hK : VS _ _ _ = KK; simp (maxSteps := 1000000) [hF, hz]; (try subst hK)
    repeat first
      | refine VS.seq ?_
      | refine VS.skip ?_
      | (refine VS.keepAt 2 [0, 2, 8] ?_; generalize hK : VS _ _ _ = KK; (try simp); (try subst hK); refine VS.region tabOk (id := 2) [] (by kernel_rfl) ?_; generalize hK : VS _ _ _ = KK; simp (maxSteps := 1000000) [hF, hz]; (try subst hK); try (refine VS.keep [0, 2, 8, 23] ?_; generalize hK : VS _ _ _ = KK; simp; (try subst hK)))
      | (refine VS.keepAt 4 [0, 2] ?_; generalize hK : VS _ _ _ = KK; (try simp); (try subst hK); refine VS.region tabOk (id := 4) [] (by kernel_rfl) ?_; generalize hK : VS _ _ _ = KK; simp (maxSteps := 1000000) [hF, hz]; (try subst hK); try (refine VS.keep [0, 9] ?_; generalize hK : VS _ _ _ = KK; simp; (try subst hK)))
      | (refine VS.cond ?_; generalize hK1 : VS _ _ _ = KK1; generalize hK2 : VS _ _ _ = KK2; simp (maxSteps := 1000000) [hF, hz]; (try subst hK1); (try subst hK2))
    refine (reach_ok h hok k hk).call [] (by simp) (by simp (maxSteps := 1000000) [hF]) (by simp (maxSteps := 1000000) [hF]) (by simp (maxSteps := 1000000) [hF]) (by simp) ?_
    rintro av X κ ⟨rfl, rfl, rfl⟩
    generalize hK : VS _ _ _ = KK; simp (maxSteps := 1000000) [hF]; (try subst hK)
    repeat first
      | refine VS.seq ?_
      | (refine VS.keepAt 5 [0, 9] ?_; generalize hK : VS _ _ _ = KK; (try simp); (try subst hK); refine VS.region tabOk (id := 5) [] (by kernel_rfl) ?_; generalize hK : VS _ _ _ = KK; simp (maxSteps := 1000000) [hF]; (try subst hK); try (refine VS.keep [0, 9, 10] ?_; generalize hK : VS _ _ _ = KK; simp; (try subst hK)))
    refine VS.cool 9 (by simp (maxSteps := 1000000) [hF]) ?_
    generalize hK : VS _ _ _ = KK; simp [hF, St.cool]; (try subst hK)
    refine VS.hold0 10 5 (by simp) ?_
    repeat first
      | refine VS.block ?_
      | (refine VS.keepAt 6 [0, 9, 10] ?_; generalize hK : VS _ _ _ = KK; (try simp); (try subst hK); refine VS.region tabOk (id := 6) [] (by kernel_rfl) ?_; generalize hK : VS _ _ _ = KK; simp (maxSteps := 1000000) [hF]; (try subst hK); try (refine VS.keep [0, 9, 10, 28, 29, 30] ?_; generalize hK : VS _ _ _ = KK; simp; (try subst hK)))
    refine VS.pick [0, 9, 10, 28, 29, 30] [2] (by simp [hF]) ?_
    generalize hK : VS _ _ _ = KK; simp [hF]; (try subst hK)
    generalize hL : reachA h.things (k : Int) = L at *
    obtain ⟨CS, hCS⟩ : ∃ CS, CS = L.map fun y => cellOf L (gd h.things y) := ⟨_, rfl⟩
    have hCl : CS.length = L.length := by simp [hCS]
    have hLv : ∀ i, (hi : i < L.length) → ∃ y : Nat, L[i] = y ∧ y < h.things.length := by subst hL; exact fun i hi => reach_nat hok hk hi
    refine VS.rounds (fun m st => ∃ (i : Nat), i + m = L.length ∧ st = ⟨[(0, avH h), (9, .imm 1 (dInts L) false), (10, .sub 0 [] 0 i false), (28, .imm 1 (dInts L) false), (29, avInt L.length), (30, avInt i)],
      [.sl true () 5 (dCls (CS.take i))], [], []⟩) ⟨L.length, 0, by omega, by simp [dCls]⟩ ?_
    rintro m st ⟨i, hi, rfl⟩
    repeat first
      | refine VS.seq ?_
      | (refine VS.keepAt 7 [0, 9, 10, 28, 29, 30] ?_; generalize hK : VS _ _ _ = KK; (try simp); (try subst hK); refine VS.region tabOk (id := 7) [] (by kernel_rfl) ?_; generalize hK : VS _ _ _ = KK; simp (maxSteps := 1000000) [hF]; (try subst hK); try (refine VS.keep [0, 9, 10, 28, 29, 30, 31] ?_; generalize hK : VS _ _ _ = KK; simp; (try subst hK)))
      | (refine VS.cond ?_; generalize hK1 : VS _ _ _ = KK1; generalize hK2 : VS _ _ _ = KK2; simp (maxSteps := 1000000) [hF]; (try subst hK1); (try subst hK2))
    refine ⟨fun hlt => ?_, fun hge => ?_⟩
    · obtain ⟨y, hy, hyl⟩ := hLv i hlt
      have hn := dTgs_nth (o := false) hyl
      have hin : (dInts L).nth i = .val (.int .i64 y) := by rw [dInts_nth hlt, hy]
      have hil := hok.few _ (List.getElem_mem hyl)
      have hw1 : IntKind.i64.wrap ((i : Int) + 1) = (i + 1 : Nat) := by rw [IntWalk.i64_in _ (by omega)]; rfl
      have htk : CS.take (i + 1) = CS.take i ++ [cellOf L h.things[y]] := by
        rw [List.take_add_one, List.getElem?_eq_getElem (by omega)]; simp [hCS, hy, hyl]
      have htl : (CS.take i).length = i := by rw [List.length_take]; omega
      have hmid : (dCls (CS.take i)).mid 0 i = dCls (CS.take i) := sq_mid_all _ _ (by simp; omega)
      have hpush := dCls_push (CS.take i) (cellOf L h.things[y])
      have hmid2 : (dCls (CS.take (i + 1))).mid 0 (i + 1) = dCls (CS.take (i + 1)) := sq_mid_all _ _ (by simp; omega)
      cases hb : h.things[y].list with
      | false =>
        rw [hb] at hn
        have hce : cellOf L h.things[y] = ⟨false, h.things[y].word, []⟩ := by simp [cellOf, hb]
        rw [hce] at htk
        rw [hce, ← htk] at hpush
        simp only [Bool.false_eq_true, if_false, dInts_nil] at hpush
        repeat first
          | refine VS.seq ?_
          | refine VS.skip ?_
          | refine VS.block ?_
          | refine VS.nil ?_
          | refine loopN_normal ?_
          | refine VS.exit ?_
          | refine blockN_hit ?_
          | refine ⟨⟨by omega, by omega⟩, ?_⟩
          | (refine VS.keepAt 8 [0, 9, 10, 28, 29, 30] ?_; generalize hK : VS _ _ _ = KK; (try simp); (try subst hK); refine VS.region tabOk (id := 8) [] (by kernel_rfl) ?_; generalize hK : VS _ _ _ = KK; simp (maxSteps := 1000000) [hF, hin, hlt, dHI, hn, hyl, hmid, hpush, hw1, htl]; (try subst hK); try (refine VS.keep [0, 9, 10, 12, 28, 29, 30] ?_; generalize hK : VS _ _ _ = KK; simp; (try subst hK)))
          | (refine VS.keepAt 9 [0, 9, 10, 12, 28, 29, 30] ?_; generalize hK : VS _ _ _ = KK; (try simp); (try subst hK); refine VS.region tabOk (id := 9) [] (by kernel_rfl) ?_; generalize hK : VS _ _ _ = KK; simp (maxSteps := 1000000) [hF, hin, hlt, dHI, hn, hyl, hmid, hpush, hw1, htl]; (try subst hK); try (refine VS.keep [0, 9, 10, 13, 28, 29, 30] ?_; generalize hK : VS _ _ _ = KK; simp; (try subst hK)))
          | (refine VS.keepAt 10 [0, 9, 10, 13, 28, 29, 30] ?_; generalize hK : VS _ _ _ = KK; (try simp); (try subst hK); refine VS.region tabOk (id := 10) [] (by kernel_rfl) ?_; generalize hK : VS _ _ _ = KK; simp (maxSteps := 1000000) [hF, hin, hlt, dHI, hn, hyl, hmid, hpush, hw1, htl]; (try subst hK); try (refine VS.keep [0, 9, 10, 13, 28, 29, 30, 43] ?_; generalize hK : VS _ _ _ = KK; simp; (try subst hK)))
          | (refine VS.keepAt 11 [0, 9, 10, 13, 28, 29, 30] ?_; generalize hK : VS _ _ _ = KK; (try simp); (try subst hK); refine VS.region tabOk (id := 11) [] (by kernel_rfl) ?_; generalize hK : VS _ _ _ = KK; simp (maxSteps := 1000000) [hF, hin, hlt, dHI, hn, hyl, hmid, hpush, hw1, htl]; (try subst hK); try (refine VS.keep [0, 9, 10, 28, 29, 30] ?_; generalize hK : VS _ _ _ = KK; simp; (try subst hK)))
          | (refine VS.keepAt 19 [0, 9, 10, 28, 29, 30] ?_; generalize hK : VS _ _ _ = KK; (try simp); (try subst hK); refine VS.region tabOk (id := 19) [] (by kernel_rfl) ?_; generalize hK : VS _ _ _ = KK; simp (maxSteps := 1000000) [hF, hin, hlt, dHI, hn, hyl, hmid, hpush, hw1, htl]; (try subst hK); try (refine VS.keep [0, 9, 10, 28, 29, 30] ?_; generalize hK : VS _ _ _ = KK; simp; (try subst hK)))
          | (refine VS.cond ?_; generalize hK1 : VS _ _ _ = KK1; generalize hK2 : VS _ _ _ = KK2; simp (maxSteps := 1000000) [hF, hin, hlt, dHI, hn, hyl, hmid, hpush, hw1, htl]; (try subst hK1); (try subst hK2))
        refine nextK.of [0, 9, 10, 28, 29, 30] [0] (m - 1) (by omega) (by simp [hF]) ?_
        refine ⟨i + 1, by omega, ?_⟩
        simp [hpush, hmid, hmid2]
      | true =>
        rw [hb] at hn
        have hce : cellOf L h.things[y] = ⟨true, 0, h.things[y].items.map (ixE L)⟩ := by simp [cellOf, hb]
        rw [hce] at htk
        rw [hce, ← htk] at hpush
        simp only [if_true] at hpush
        obtain ⟨IS, hIS⟩ : ∃ IS, IS = h.things[y].items.map (ixE L) := ⟨_, rfl⟩
        have hIl : IS.length = h.things[y].items.length := by simp [hIS]
        rw [← hIS] at hpush htk hce
        repeat first
          | refine VS.seq ?_
          | refine VS.skip ?_
          | refine VS.block ?_
          | (refine VS.keepAt 8 [0, 9, 10, 28, 29, 30] ?_; generalize hK : VS _ _ _ = KK; (try simp); (try subst hK); refine VS.region tabOk (id := 8) [] (by kernel_rfl) ?_; generalize hK : VS _ _ _ = KK; simp (maxSteps := 1000000) [hF, hin, hlt, dHI, hn, hyl, hmid]; (try subst hK); try (refine VS.keep [0, 9, 10, 12, 28, 29, 30] ?_; generalize hK : VS _ _ _ = KK; simp; (try subst hK)))
          | (refine VS.keepAt 9 [0, 9, 10, 12, 28, 29, 30] ?_; generalize hK : VS _ _ _ = KK; (try simp); (try subst hK); refine VS.region tabOk (id := 9) [] (by kernel_rfl) ?_; generalize hK : VS _ _ _ = KK; simp (maxSteps := 1000000) [hF, hin, hlt, dHI, hn, hyl, hmid]; (try subst hK); try (refine VS.keep [0, 9, 10, 13, 28, 29, 30] ?_; generalize hK : VS _ _ _ = KK; simp; (try subst hK)))
          | (refine VS.keepAt 10 [0, 9, 10, 13, 28, 29, 30] ?_; generalize hK : VS _ _ _ = KK; (try simp); (try subst hK); refine VS.region tabOk (id := 10) [] (by kernel_rfl) ?_; generalize hK : VS _ _ _ = KK; simp (maxSteps := 1000000) [hF, hin, hlt, dHI, hn, hyl, hmid]; (try subst hK); try (refine VS.keep [0, 9, 10, 13, 28, 29, 30, 43] ?_; generalize hK : VS _ _ _ = KK; simp; (try subst hK)))
          | (refine VS.keepAt 12 [0, 9, 10, 13, 28, 29, 30] ?_; generalize hK : VS _ _ _ = KK; (try simp); (try subst hK); refine VS.region tabOk (id := 12) [] (by kernel_rfl) ?_; generalize hK : VS _ _ _ = KK; simp (maxSteps := 1000000) [hF, hin, hlt, dHI, hn, hyl, hmid]; (try subst hK); try (refine VS.keep [0, 9, 10, 13, 14, 28, 29, 30] ?_; generalize hK : VS _ _ _ = KK; simp; (try subst hK)))
          | (refine VS.keepAt 13 [0, 9, 10, 13, 14, 28, 29, 30] ?_; generalize hK : VS _ _ _ = KK; (try simp); (try subst hK); refine VS.region tabOk (id := 13) [] (by kernel_rfl) ?_; generalize hK : VS _ _ _ = KK; simp (maxSteps := 1000000) [hF, hin, hlt, dHI, hn, hyl, hmid]; (try subst hK); try (refine VS.keep [0, 9, 10, 14, 28, 29, 30, 52, 53, 54] ?_; generalize hK : VS _ _ _ = KK; simp; (try subst hK)))
          | (refine VS.cond ?_; generalize hK1 : VS _ _ _ = KK1; generalize hK2 : VS _ _ _ = KK2; simp (maxSteps := 1000000) [hF, hin, hlt, dHI, hn, hyl, hmid]; (try subst hK1); (try subst hK2))
        refine VS.pick [0, 9, 10, 14, 28, 29, 30, 52, 53, 54] [0, 2] (by simp [hF]) ?_
        generalize hK : VS _ _ _ = KK; simp [hF]; (try subst hK)
        refine VS.rounds (fun m2 st => ∃ (j : Nat) (cur : List Int), j + m2 = h.things[y].items.length ∧ cur = IS.take j ∧ st = ⟨[(0, avH h), (9, .imm 1 (dInts L) false), (10, .sub 0 [] 0 i false), (14, .ptr 1 [.d]), (28, .imm 1 (dInts L) false), (29, avInt L.length), (30, avInt i), (52, .imm 1 (dInts h.things[y].items) false), (53, avInt h.things[y].items.length), (54, avInt j)],
          [.sl true () 5 (dCls (CS.take i)), .box true () (dCl ⟨true, 0, cur⟩)], [], []⟩) ⟨h.things[y].items.length, 0, [], by omega, by simp, by simp [dCl]⟩ ?_
        rintro m2 st ⟨j, cur, hj, hcur, rfl⟩
        have hjl : cur.length = j := by rw [hcur, List.length_take]; omega
        repeat first
          | refine VS.seq ?_
          | (refine VS.keepAt 14 [0, 9, 10, 14, 28, 29, 30, 52, 53, 54] ?_; generalize hK : VS _ _ _ = KK; (try simp); (try subst hK); refine VS.region tabOk (id := 14) [] (by kernel_rfl) ?_; generalize hK : VS _ _ _ = KK; simp (maxSteps := 1000000) [hF]; (try subst hK); try (refine VS.keep [0, 9, 10, 14, 28, 29, 30, 52, 53, 54, 55] ?_; generalize hK : VS _ _ _ = KK; simp; (try subst hK)))
          | (refine VS.cond ?_; generalize hK1 : VS _ _ _ = KK1; generalize hK2 : VS _ _ _ = KK2; simp (maxSteps := 1000000) [hF]; (try subst hK1); (try subst hK2))
        refine ⟨fun hlt2 => ?_, fun hge2 => ?_⟩
        · have hn2 := dInts_nth hlt2
          have hw2 : IntKind.i64.wrap ((j : Int) + 1) = (j + 1 : Nat) := by rw [IntWalk.i64_in _ (by omega)]; rfl
          have hjm : (dInts cur).mid 0 j = dInts cur := by rw [← hjl]; simp
          have hj1 : IS.take (j + 1) = cur ++ [ixE L h.things[y].items[j]] := by
            rw [List.take_add_one, List.getElem?_eq_getElem (by omega), hcur]; simp [hIS]
          have hj2 := dInts_app1 cur (ixE L h.things[y].items[j])
          have hj3 : (dInts (cur ++ [ixE L h.things[y].items[j]])).mid 0 (j + 1) = dInts (cur ++ [ixE L h.things[y].items[j]]) := sq_mid_all _ _ (by simp; omega)
          refine VS.lift 1 [.d, .f 4] (by simp (maxSteps := 1000000) [hF, dCl]) (by simp (maxSteps := 1000000) [hF, dCl]) (by simp [isNode, dCl]) (by simp (maxSteps := 1000000) [hF, dCl]) ?_
          generalize hK : VS _ _ _ = KK; simp [hF, St.lift, AV.lift, liftPl, stripP, nodeAV, dCl]; (try subst hK)
          repeat first
            | refine VS.seq ?_
            | refine VS.skip ?_
            | refine VS.block ?_
            | (refine VS.keepAt 15 [0, 9, 10, 14, 28, 29, 30, 52, 53, 54] ?_; generalize hK : VS _ _ _ = KK; (try simp); (try subst hK); refine VS.region tabOk (id := 15) [] (by kernel_rfl) ?_; generalize hK : VS _ _ _ = KK; simp (maxSteps := 1000000) [hF, hn2, hlt2, hjl]; (try subst hK); try (refine VS.keep [0, 9, 10, 14, 16, 28, 29, 30, 52, 53, 54] ?_; generalize hK : VS _ _ _ = KK; simp; (try subst hK)))
            | (refine VS.keepAt 16 [0, 9, 10, 14, 16, 28, 29, 30, 52, 53, 54] ?_; generalize hK : VS _ _ _ = KK; (try simp); (try subst hK); refine VS.drawnE tabOk mixedOk (id := 16) 16 [] [⟨0, 16384, 288230376151711744, 5⟩, ⟨1, 288230376151711744, 576460752303423488, 6⟩, ⟨0, 512, 1152921504606846976, 5⟩, ⟨0, 65536, 2305843009213693952, 5⟩, ⟨12, 3458764513820540928, 4611686018427387904, 0⟩, ⟨16, 4611686018427387904, 9223372036854775808, 4⟩, ⟨50, 9799832789158199296, 18446744073709551616, 0⟩, ⟨127, 16384, 36893488147419103232, 5⟩, ⟨255, 55340232221128654848, 0, 0⟩] (.take 0 (.take 1 (.take 2 (.take 3 (.fork (.alt 4 (.fork (.alt 5 (.fork (.alt 6 (.take 7 (.fork (.alt 8 (.done) (.nil)))) (.nil))) (.nil))) (.nil))))))) (.run [0, 1, 2, 3] (.chk 4 (.run [4, 5, 6, 7, 8] (.done)))) (by kernel_rfl) (by kernel_rfl) (by kernel_rfl) ?_; generalize hK : VS _ _ _ = KK; simp only [opsVc_run, opsVc_both, opsVc_chk, opsVc_done, opsVc_yes, pick_cons, pick_nil, List.getElem?_cons_zero, List.getElem?_cons_succ]; simp (maxSteps := 1000000) [hF, hn2, hlt2, hjl]; (try subst hK); try (refine VS.keep [0, 9, 10, 14, 28, 29, 30, 52, 53, 54] ?_; generalize hK : VS _ _ _ = KK; simp; (try subst hK)))
          have hE : ixF (fun x => decide (x = h.things[y].items[j])) L = ixE L h.things[y].items[j] := rfl
          have c1 : (j + 1) * 8 ≤ 140737488355328 := by omega
          have c2 : j ≤ 9223372036854775806 := by omega
          refine (index_ok false L h.things[y].items[j] (by omega)).call [] (by simp) (by simp (maxSteps := 1000000) [hF, hE, hjm, hj2, hj3, c1, c2]) (by simp (maxSteps := 1000000) [hF, hE, hjm, hj2, hj3, c1, c2]) (by simp (maxSteps := 1000000) [hF, hE, hjm, hj2, hj3, c1, c2]) (by simp) ?_
          rintro av X κ ⟨rfl, rfl, rfl⟩
          generalize hK : VS _ _ _ = KK; simp (maxSteps := 1000000) [hF, hE, hjm, hj2, hj3, c1, c2]; (try subst hK)
          repeat first
            | refine VS.nil ?_
            | refine blockN_normal ?_
            | refine loopN_normal ?_
            | (refine VS.keepAt 17 [0, 9, 10, 14, 28, 29, 30, 52, 53, 54] ?_; generalize hK : VS _ _ _ = KK; (try simp); (try subst hK); refine VS.region tabOk (id := 17) [] (by kernel_rfl) ?_; generalize hK : VS _ _ _ = KK; simp (maxSteps := 1000000) [hF, hjm, hjl, hj2, hw2, hj3]; (try subst hK); try (refine VS.keep [0, 9, 10, 14, 28, 29, 30, 52, 53, 54] ?_; generalize hK : VS _ _ _ = KK; simp; (try subst hK)))
          refine nextK.of [0, 9, 10, 14, 28, 29, 30, 52, 53, 54] [0, 1] (m2 - 1) (by omega) (by simp [hF]) ?_
          refine ⟨j + 1, cur ++ [ixE L h.things[y].items[j]], by omega, hj1.symm, ?_⟩
          simp [dCl]
        · have hjj : cur = IS := by rw [hcur, List.take_of_length_le (by omega)]
          subst hjj
          have hmid3 : (dInts cur).mid 0 cur.length = dInts cur := by simp
          repeat first
            | refine VS.exit ?_
            | refine blockN_hit ?_
            | refine loopN_exit ?_
          refine VS.lift 1 [.d, .f 4] (by simp (maxSteps := 1000000) [hF, dCl]) (by simp (maxSteps := 1000000) [hF, dCl]) (by simp [isNode, dCl]) (by simp (maxSteps := 1000000) [hF, dCl]) ?_
          generalize hK : VS _ _ _ = KK; simp [hF, St.lift, AV.lift, liftPl, stripP, nodeAV, dCl]; (try subst hK)
          refine VS.lift 1 [.d, .f 3] (by simp (maxSteps := 1000000) [hF, dCl]) (by simp (maxSteps := 1000000) [hF, dCl]) (by simp [isNode, dCl]) (by simp (maxSteps := 1000000) [hF, dCl]) ?_
          generalize hK : VS _ _ _ = KK; simp [hF, St.lift, AV.lift, liftPl, stripP, nodeAV, dCl]; (try subst hK)
          repeat first
            | refine VS.nil ?_
            | refine blockN_normal ?_
            | refine loopN_normal ?_
            | refine ⟨⟨by omega, by omega⟩, ?_⟩
            | (refine VS.keepAt 18 [0, 9, 10, 14, 28, 29, 30] ?_; generalize hK : VS _ _ _ = KK; (try simp); (try subst hK); refine VS.region tabOk (id := 18) [] (by kernel_rfl) ?_; generalize hK : VS _ _ _ = KK; simp (maxSteps := 1000000) [hF, dCl, hmid, hmid3, hpush, hw1, htl]; (try subst hK); try (refine VS.keep [0, 9, 10, 28, 29, 30] ?_; generalize hK : VS _ _ _ = KK; simp; (try subst hK)))
            | (refine VS.keepAt 19 [0, 9, 10, 28, 29, 30] ?_; generalize hK : VS _ _ _ = KK; (try simp); (try subst hK); refine VS.region tabOk (id := 19) [] (by kernel_rfl) ?_; generalize hK : VS _ _ _ = KK; simp (maxSteps := 1000000) [hF, dCl, hmid, hmid3, hpush, hw1, htl]; (try subst hK); try (refine VS.keep [0, 9, 10, 28, 29, 30] ?_; generalize hK : VS _ _ _ = KK; simp; (try subst hK)))
          refine nextK.of [0, 9, 10, 28, 29, 30] [0] (m - 1) (by omega) (by simp [hF]) ?_
          refine ⟨i + 1, by omega, ?_⟩
          simp [hpush, hmid, hmid2]
    · have hii : i = L.length := by omega
      have hfin : CS.take i = CS := List.take_of_length_le (by omega)
      have hc : graphOf h who (k : Int) = (CS, 0) := by simp [graphOf, hz, hL, hCS]
      repeat first
        | refine VS.seq ?_
        | refine VS.exit ?_
        | (refine VS.keepAt 20 [10] ?_; generalize hK : VS _ _ _ = KK; (try simp); (try subst hK); refine VS.region tabOk (id := 20) [] (by kernel_rfl) ?_; generalize hK : VS _ _ _ = KK; simp (maxSteps := 1000000) [hF]; (try subst hK); try (refine VS.keep [6, 7] ?_; generalize hK : VS _ _ _ = KK; simp; (try subst hK)))
      try refine VS.ret ?_
      repeat first | refine blockN_ret ?_ | refine loopN_ret ?_
      refine endK.of [6, 7] [0] [] (by simp [hF]) (by simp [covers, mpre]) ?_
      simp [hF, retK, hc, hfin]
      omega
  · have hc : graphOf h who x = ([], askOf h who [x]) := by simp [graphOf, hz]
    repeat first
      | refine VS.seq ?_
      | (refine VS.keepAt 0 [0, 1, 2] ?_; generalize hK : VS _ _ _ = KK; (try simp); (try subst hK); refine VS.region tabOk (id := 0) [] (by kernel_rfl) ?_; generalize hK : VS _ _ _ = KK; simp (maxSteps := 1000000) [hF]; (try subst hK); try (refine VS.keep [0, 1, 2] ?_; generalize hK : VS _ _ _ = KK; simp; (try subst hK)))
      | (refine VS.keepAt 1 [0, 1, 2] ?_; generalize hK : VS _ _ _ = KK; (try simp); (try subst hK); refine VS.region tabOk (id := 1) [] (by kernel_rfl) ?_; generalize hK : VS _ _ _ = KK; simp (maxSteps := 1000000) [hF]; (try subst hK); try (refine VS.keep [0, 2, 8] ?_; generalize hK : VS _ _ _ = KK; simp; (try subst hK)))
    refine (ask_s1 h who true x).call [(0, [])] (by simp) (by simp (maxSteps := 1000000) [hF, hz]) (by simp (maxSteps := 1000000) [hF, hz]) (by simp (maxSteps := 1000000) [hF, hz]) (by simp) ?_
    rintro av X κ ⟨rfl, rfl, rfl⟩
    generalize hK : VS _ _ _ = KK; simp (maxSteps := 1000000) [hF, hz]; (try subst hK)
    repeat first
      | refine VS.seq ?_
      | (refine VS.keepAt 2 [0, 2, 8] ?_; generalize hK : VS _ _ _ = KK; (try simp); (try subst hK); refine VS.region tabOk (id := 2) [] (by kernel_rfl) ?_; generalize hK : VS _ _ _ = KK; simp (maxSteps := 1000000) [hF, hz]; (try subst hK); try (refine VS.keep [0, 2, 8, 23] ?_; generalize hK : VS _ _ _ = KK; simp; (try subst hK)))
      | (refine VS.keepAt 3 [8] ?_; generalize hK : VS _ _ _ = KK; (try simp); (try subst hK); refine VS.region tabOk (id := 3) [] (by kernel_rfl) ?_; generalize hK : VS _ _ _ = KK; simp (maxSteps := 1000000) [hF, hz]; (try subst hK); try (refine VS.keep [6, 7] ?_; generalize hK : VS _ _ _ = KK; simp; (try subst hK)))
      | (refine VS.cond ?_; generalize hK1 : VS _ _ _ = KK1; generalize hK2 : VS _ _ _ = KK2; simp (maxSteps := 1000000) [hF, hz]; (try subst hK1); (try subst hK2))
    refine VS.hold0 6 5 (by simp) ?_
    try refine VS.ret ?_
    repeat first | refine blockN_ret ?_ | refine loopN_ret ?_
    refine endK.of [6, 7] [1] [] (by simp [hF]) (by simp [covers, mpre]) ?_
    simp [hF, retK, hc, dCls, sq]
end Go.Proofs.Ytkkbcpcihadkhaa

/- The same of a house that can change. -/
namespace Go.Proofs.Ytkkbcpcihadkhaa
set_option linter.all false
open Go.Vc Go.Proofs
set_option linter.unusedSimpArgs false
set_option linter.unusedVariables false
set_option maxRecDepth 100000
set_option maxHeartbeats 4000000
attribute [local irreducible] CallW EqK

theorem own_sq {l : List D} (h : ∀ x ∈ l, x.allOwn = true) : (sq l).allOwn = true := by
  induction l with
  | nil => rfl
  | cons a l ih => simp [sq, T.allOwn, h a (by simp), ih fun x hx => h x (by simp [hx])]
@[simp] theorem own_ints (l : List Int) : (dInts l).allOwn = true := own_sq fun x hx => by obtain ⟨n, _, rfl⟩ := List.mem_map.1 hx; rfl

theorem chillH {h : Hs} {t : AV} : (AV.cons (.ptr 0 [.d]) t).chilled (dH h) = .cons (avH h) (t.chilled (dH h)) := by
  obtain ⟨d, h1, h2⟩ := freeze_h h
  rw [AV.chilled]
  congr 1
  rw [h1, AV.chilled, h2]
theorem warmH {f : FuncId} {h : Hs} {Y Z : List D} {t t0 a a' : AV} (hm : Meets Try.prog f Y (.cons (avH h) t0) fun av X κ => av = a ∧ X = Z ∧ κ = []) (ht : t.chilled (dH h) = t0) (ha : a.plain = true) (hZ : ∀ x ∈ Z, x.allOwn = true) (he : a.emb [] 1 = a') :
    Meets Try.prog f (dH h :: Y) (.cons (.ptr 0 [.d]) t) fun av X κ => av = a' ∧ X = dH h :: Z ∧ κ = [] := by
  have e : (AV.cons (.ptr 0 [.d]) t).chilled (dH h) = .cons (avH h) t0 := by rw [chillH, ht]
  refine Meets.mono (Meets.warm (d0 := dH h) (Y := Y) (t := .cons (.ptr 0 [.d]) t) (by rw [e]; exact hm) ?_) ?_
  · rintro av X κ ⟨rfl, rfl, rfl⟩
    exact ⟨ha, hZ, rfl⟩
  · rintro av X κ ⟨av0, X0, ⟨rfl, rfl, _⟩, rfl, rfl, rfl⟩
    exact ⟨he, rfl, rfl⟩

theorem is_c (h : Hs) (who : Int) : Meets Try.prog 50 [dH h] (.cons (.ptr 0 [.d]) (.cons (avInt who) .nil)) fun av X κ => av = avBool (isR h who) ∧ X = [dH h] ∧ κ = [] :=
  warmH (is_ok h who) rfl rfl (by simp) rfl
theorem has_c1 (h : Hs) (ex : Bool) (x : Int) : Meets Try.prog 41 [dH h, .sl true () 1 (.cons (.val (.int .i64 x)) .nil)] (.cons (.ptr 0 [.d]) (.cons (.sub 1 [] 0 1 ex) .nil))
    fun av X κ => av = avBool (isT h x) ∧ X = [dH h, .sl true () 1 (.cons (.val (.int .i64 x)) .nil)] ∧ κ = [] :=
  warmH (has_s1 h ex x) rfl rfl (by simp [T.allOwn]) rfl
theorem ask_c1 (h : Hs) (who : Int) (ex : Bool) (x : Int) : Meets Try.prog 42 [dH h, .sl true () 1 (.cons (.val (.int .i64 x)) .nil)] (.cons (.ptr 0 [.d]) (.cons (avInt who) (.cons (.sub 1 [] 0 1 ex) .nil)))
    fun av X κ => av = avInt (askOf h who [x]) ∧ X = [dH h, .sl true () 1 (.cons (.val (.int .i64 x)) .nil)] ∧ κ = [] :=
  warmH (ask_s1 h who ex x) rfl rfl (by simp [T.allOwn]) rfl
theorem ask_c2 (h : Hs) (who : Int) (ex : Bool) (x y : Int) : Meets Try.prog 42 [dH h, .sl true () 1 (.cons (.val (.int .i64 x)) (.cons (.val (.int .i64 y)) .nil))] (.cons (.ptr 0 [.d]) (.cons (avInt who) (.cons (.sub 1 [] 0 2 ex) .nil)))
    fun av X κ => av = avInt (askOf h who [x, y]) ∧ X = [dH h, .sl true () 1 (.cons (.val (.int .i64 x)) (.cons (.val (.int .i64 y)) .nil))] ∧ κ = [] := by
  have h1 := ask_s h who ex [x, y] (by simp)
  have h2 : Meets Try.prog 42 [.sl true () 1 (.cons (.val (.int .i64 x)) (.cons (.val (.int .i64 y)) .nil))] (.cons (avH h) (.cons (avInt who) (.cons (.sub 0 [] 0 2 ex) .nil)))
    fun av X κ => av = avInt (askOf h who [x, y]) ∧ X = [.sl true () 1 (.cons (.val (.int .i64 x)) (.cons (.val (.int .i64 y)) .nil))] ∧ κ = [] := by simpa [dInts, sq, dInt] using h1
  exact warmH h2 rfl rfl (by simp [T.allOwn]) rfl
theorem ask_ci (h : Hs) (who : Int) (ex : Bool) (l : List Int) (hl : l.length ≤ 100000000) : Meets Try.prog 42 [dH h] (.cons (.ptr 0 [.d]) (.cons (avInt who) (.cons (.imm 1 (dInts l) ex) .nil)))
    fun av X κ => av = avInt (askOf h who l) ∧ X = [dH h] ∧ κ = [] :=
  warmH (ask_i h who ex l hl) rfl rfl (by simp) rfl
theorem ask_n (h : Hs) (who : Int) : Meets Try.prog 42 [] (.cons (avH h) (.cons (avInt who) (.cons (.nils 1) .nil)))
    fun av X κ => av = avInt (askOf h who []) ∧ X = [] ∧ κ = [] := Meets.nilled (ask_i h who true [] (by simp))
theorem ask_cn (h : Hs) (who : Int) : Meets Try.prog 42 [dH h] (.cons (.ptr 0 [.d]) (.cons (avInt who) (.cons (.nils 1) .nil)))
    fun av X κ => av = avInt (askOf h who []) ∧ X = [dH h] ∧ κ = [] :=
  warmH (ask_n h who) rfl rfl (by simp) rfl
theorem index_c (h : Hs) (x i : Int) : Meets Try.prog 63 [dH h] (.cons (.ptr 0 [.d]) (.cons (avInt x) (.cons (avInt i) .nil))) fun av X κ => av = avInt (indexOf h x i) ∧ X = [dH h] ∧ κ = [] :=
  warmH (hindex_ok h x i) rfl rfl (by simp) rfl
theorem get_c (h : Hs) (who x i : Int) : Meets Try.prog 22 [dH h] (.cons (.ptr 0 [.d]) (.cons (avInt who) (.cons (avInt x) (.cons (avInt i) .nil)))) fun av X κ => av = two (getOf h who x i) ∧ X = [dH h] ∧ κ = [] :=
  warmH (get_ok h who x i) rfl rfl (by simp) rfl
theorem owner_c (h : Hs) (x : Int) : Meets Try.prog 14 [dH h] (.cons (.ptr 0 [.d]) (.cons (avInt x) .nil)) fun av X κ => av = two (ownerOf h x) ∧ X = [dH h] ∧ κ = [] :=
  warmH (owner_ok h x) rfl rfl (by simp) rfl
theorem word_c (h : Hs) (who x : Int) : Meets Try.prog 35 [dH h] (.cons (.ptr 0 [.d]) (.cons (avInt who) (.cons (avInt x) .nil))) fun av X κ => av = two (wordOf h who x) ∧ X = [dH h] ∧ κ = [] :=
  warmH (word_ok h who x) rfl rfl (by simp) rfl
theorem len_c (h : Hs) : Meets Try.prog 21 [dH h] (.cons (.ptr 0 [.d]) .nil) fun av X κ => av = avInt h.things.length ∧ X = [dH h] ∧ κ = [] :=
  warmH (len_ok h) rfl rfl (by simp) rfl
theorem reach_c (h : Hs) (hok : Hok h) (x : Nat) (hx : x < h.things.length) : Meets Try.prog 43 [dH h] (.cons (.ptr 0 [.d]) (.cons (avInt x) .nil))
    fun av X κ => av = .sub 1 [] 0 (reachA h.things x).length false ∧ X = [dH h, .sl true () 1 (dInts (reachA h.things x))] ∧ κ = [] :=
  warmH (reach_ok h hok x hx) rfl rfl (by simp [T.allOwn]) rfl
theorem shareable_c (h : Hs) (hok : Hok h) (x : Nat) (hx : x < h.things.length) : Meets Try.prog 75 [dH h] (.cons (.ptr 0 [.d]) (.cons (avInt x) .nil)) fun av X κ => av = avBool (shbl h.things x) ∧ X = [dH h] ∧ κ = [] :=
  warmH (shareable_ok h hok x hx) rfl rfl (by simp) rfl
theorem hShareable_c (h : Hs) (hok : Hok h) (x : Int) : Meets Try.prog 33 [dH h] (.cons (.ptr 0 [.d]) (.cons (avInt x) .nil)) fun av X κ => av = avTwo (avBool (shareableOf h x).1) (shareableOf h x).2 ∧ X = [dH h] ∧ κ = [] :=
  warmH (hShareable_ok h hok x) rfl rfl (by simp) rfl
theorem sends_c (h : Hs) (who to x : Int) : Meets Try.prog 45 [dH h] (.cons (.ptr 0 [.d]) (.cons (avInt who) (.cons (avInt to) (.cons (avInt x) .nil)))) fun av X κ => av = avInt (sendsOf h who to x) ∧ X = [dH h] ∧ κ = [] :=
  warmH (sends_ok h who to x) rfl rfl (by simp) rfl
theorem own_c (h : Hs) (hok : Hok h) (x : Nat) (hx : x < h.things.length) : Meets Try.prog 46 [dH h] (.cons (.ptr 0 [.d]) (.cons (avInt x) .nil))
    fun av X κ => ∃ z, av = .sub 1 [] 0 (ownA h.things x).length false ∧ X = [dH h, .sl true () 1 (dInts (ownA h.things x ++ z))] ∧ κ = [] := by
  have e : (AV.cons (.ptr 0 [.d]) (.cons (avInt x) .nil)).chilled (dH h) = .cons (avH h) (.cons (avInt x) .nil) := by rw [chillH]; rfl
  refine Meets.mono (Meets.warm (d0 := dH h) (Y := []) (t := .cons (.ptr 0 [.d]) (.cons (avInt x) .nil)) (by rw [e]; exact own_ok h hok x hx) ?_) ?_
  · rintro av X κ ⟨z, rfl, rfl, rfl⟩
    exact ⟨rfl, by simp [T.allOwn], rfl⟩
  · rintro av X κ ⟨av0, X0, ⟨z, rfl, rfl, _⟩, rfl, rfl, rfl⟩
    exact ⟨z, rfl, rfl, rfl⟩
theorem tied_c (h : Hs) (hok : Hok h) (who : Nat) (hw : who < h.rooms.length) (l z : List Int) (ex : Bool) (hl : l.length ≤ 400) : Meets Try.prog 51 [dH h, .sl true () 1 (dInts (l ++ z))] (.cons (.ptr 0 [.d]) (.cons (avInt who) (.cons (.sub 1 [] 0 l.length ex) .nil)))
    fun av X κ => av = avBool (tiedOf h who l) ∧ X = [dH h, .sl true () 1 (dInts (l ++ z))] ∧ κ = [] := by
  have hm : (dInts (l ++ z)).mid 0 l.length = dInts l := by rw [dInts_mid]; simp
  have e : (AV.cons (avH h) (.cons (avInt who) (.cons (.sub 0 [] 0 l.length ex) .nil))).chilled (.sl true () 1 (dInts (l ++ z))) = .cons (avH h) (.cons (avInt who) (.cons (.imm 1 (dInts l) ex) .nil)) := by
    simp only [AV.chilled, hm, freeze_ints]
  have h1 : Meets Try.prog 51 [.sl true () 1 (dInts (l ++ z))] (.cons (avH h) (.cons (avInt who) (.cons (.sub 0 [] 0 l.length ex) .nil)))
      fun av X κ => av = avBool (tiedOf h who l) ∧ X = [.sl true () 1 (dInts (l ++ z))] ∧ κ = [] := by
    refine Meets.mono (Meets.warm (Y := []) (by rw [e]; exact tied_i h hok who hw l ex hl) ?_) ?_
    · rintro av X κ ⟨rfl, rfl, rfl⟩
      exact ⟨rfl, by simp, rfl⟩
    · rintro av X κ ⟨av0, X0, ⟨rfl, rfl, _⟩, rfl, rfl, rfl⟩
      exact ⟨rfl, rfl, rfl⟩
  exact warmH h1 rfl rfl (by simp [T.allOwn]) rfl
end Go.Proofs.Ytkkbcpcihadkhaa

/- A new house; leaves and lists. -/
namespace Go.Proofs.Ytkkbcpcihadkhaa
set_option linter.all false
open Go.Vc Go.Proofs
set_option linter.unusedSimpArgs false
set_option linter.unusedVariables false
set_option maxRecDepth 100000
set_option maxHeartbeats 4000000
attribute [local irreducible] CallW EqK

theorem tg_app (L : List Tg) (o : Int) (l : Bool) (w : Int) (its : List Int) (f : Bool) : (dTgs true L).app (.cons (.agg (.cons (.val (.int .i64 o)) (.cons (.val (.bool l)) (.cons (.val (.int .i64 w)) (.cons (.sl true () 1 (dInts its)) (.cons (.val (.bool f)) .nil)))))) .nil) = dTgs true (L ++ [⟨o, l, w, its, f⟩]) := dTgs_push true L ⟨o, l, w, its, f⟩
theorem tgs_mid (L : List Tg) (t : Tg) : (dTgs true (L ++ [t])).mid 0 (L.length + 1) = dTgs true (L ++ [t]) := by
  have := dTgs_mid_all true (L ++ [t])
  simpa using this

/- (*cabochon/isolate.House).add -/
theorem add_l (h : Hs) (hl : h.things.length ≤ 400) (o : Int) (l : Bool) (w : Int) (its : List Int) (f : Bool) : Meets Try.prog 74 [dH h, .sl true () 1 (dInts its)]
    (.cons (.ptr 0 [.d]) (.cons (.agg (.cons (avInt o) (.cons (avBool l) (.cons (avInt w) (.cons (.sub 1 [] 0 its.length false) (.cons (avBool f) .nil)))))) .nil))
    fun av X κ => av = two (addOf h ⟨o, l, w, its, f⟩).2 ∧ X = [dH (addOf h ⟨o, l, w, its, f⟩).1, .junk ()] ∧ κ = [(0, [.d]), (1, [])] := by
  have hp := tg_app h.things o l w its f
  have hm := tgs_mid h.things ⟨o, l, w, its, f⟩
  have him : (dInts its).mid 0 its.length = dInts its := by simp
  by_cases hf : (400 : Int) ≤ h.things.length
  · have hf' : 400 ≤ h.things.length := by omega
    have hc : addOf h ⟨o, l, w, its, f⟩ = (h, 0, 9) := by simp [addOf, hf']
    refine Meets.of_vs tabOk Try.func74 (body := ?_) ?_ (by kernel_rfl) Try.ntmps74 (rs := [.tmp 4, .tmp 5]) (by kernel_rfl) rfl (by simp [AV.len]) (by simp only [envOf]; exact rfl) ?_
    rotate_left
    · rfl
    intro w0 I0 F0 hF
    refine VS.lift 1 [] (by simp (maxSteps := 1000000) [hF]) (by simp (maxSteps := 1000000) [hF]) (by simp [isNode]) (by simp (maxSteps := 1000000) [hF]) ?_
    generalize hK : VS _ _ _ = KK; simp [hF, St.lift, AV.lift, liftPl, stripP, nodeAV]; (try subst hK)
    repeat first
      | refine VS.seq ?_
      | (refine VS.keepAt 0 [0, 1] ?_; generalize hK : VS _ _ _ = KK; (try simp); (try subst hK); refine VS.region tabOk (id := 0) [] (by kernel_rfl) ?_; generalize hK : VS _ _ _ = KK; simp (maxSteps := 1000000) [hF, dH, hf]; (try subst hK); try (refine VS.keep [0, 3] ?_; generalize hK : VS _ _ _ = KK; simp; (try subst hK)))
      | (refine VS.keepAt 1 [0, 3] ?_; generalize hK : VS _ _ _ = KK; (try simp); (try subst hK); refine VS.region tabOk (id := 1) [] (by kernel_rfl) ?_; generalize hK : VS _ _ _ = KK; simp (maxSteps := 1000000) [hF, dH, hf]; (try subst hK); try (refine VS.keep [0, 3, 11] ?_; generalize hK : VS _ _ _ = KK; simp; (try subst hK)))
      | (refine VS.keepAt 2 [] ?_; generalize hK : VS _ _ _ = KK; (try simp); (try subst hK); refine VS.region tabOk (id := 2) [] (by kernel_rfl) ?_; generalize hK : VS _ _ _ = KK; simp (maxSteps := 1000000) [hF, dH, hf]; (try subst hK); try (refine VS.keep [4, 5] ?_; generalize hK : VS _ _ _ = KK; simp; (try subst hK)))
      | (refine VS.cond ?_; generalize hK1 : VS _ _ _ = KK1; generalize hK2 : VS _ _ _ = KK2; simp (maxSteps := 1000000) [hF, dH, hf]; (try subst hK1); (try subst hK2))
    refine VS.widen [(0, [.d]), (1, [])] (by simp [covers, mpre]) ?_
    try refine VS.ret ?_
    repeat first | refine blockN_ret ?_ | refine loopN_ret ?_
    refine endK.of [4, 5] [0, 1] [(0, [.d]), (1, [])] (by simp [hF]) (by simp [covers, mpre]) ?_
    simp [hF, retK, dH, hc]
  · have hf' : ¬ 400 ≤ h.things.length := by omega
    have hc : addOf h ⟨o, l, w, its, f⟩ = ({ h with things := h.things ++ [(⟨o, l, w, its, f⟩ : Tg)] }, (h.things.length : Int), 0) := by simp [addOf, hf']
    refine Meets.of_vs tabOk Try.func74 (body := ?_) ?_ (by kernel_rfl) Try.ntmps74 (rs := [.tmp 4, .tmp 5]) (by kernel_rfl) rfl (by simp [AV.len]) (by simp only [envOf]; exact rfl) ?_
    rotate_left
    · rfl
    intro w0 I0 F0 hF
    refine VS.lift 1 [] (by simp (maxSteps := 1000000) [hF]) (by simp (maxSteps := 1000000) [hF]) (by simp [isNode]) (by simp (maxSteps := 1000000) [hF]) ?_
    generalize hK : VS _ _ _ = KK; simp [hF, St.lift, AV.lift, liftPl, stripP, nodeAV]; (try subst hK)
    repeat first
      | refine VS.seq ?_
      | refine VS.skip ?_
      | (refine VS.keepAt 0 [0, 1] ?_; generalize hK : VS _ _ _ = KK; (try simp); (try subst hK); refine VS.region tabOk (id := 0) [] (by kernel_rfl) ?_; generalize hK : VS _ _ _ = KK; simp (maxSteps := 1000000) [hF, dH, hf]; (try subst hK); try (refine VS.keep [0, 3] ?_; generalize hK : VS _ _ _ = KK; simp; (try subst hK)))
      | (refine VS.keepAt 1 [0, 3] ?_; generalize hK : VS _ _ _ = KK; (try simp); (try subst hK); refine VS.region tabOk (id := 1) [] (by kernel_rfl) ?_; generalize hK : VS _ _ _ = KK; simp (maxSteps := 1000000) [hF, dH, hf]; (try subst hK); try (refine VS.keep [0, 3, 11] ?_; generalize hK : VS _ _ _ = KK; simp; (try subst hK)))
      | (refine VS.cond ?_; generalize hK1 : VS _ _ _ = KK1; generalize hK2 : VS _ _ _ = KK2; simp (maxSteps := 1000000) [hF, dH, hf]; (try subst hK1); (try subst hK2))
    have c1 : (h.things.length + 1) * 56 ≤ 140737488355328 := by omega
    have c2 : h.things.length ≤ 9223372036854775806 := by omega
    have hw : IntKind.i64.wrap ((h.things.length : Int) + 1 - 1) = h.things.length := by rw [IntWalk.i64_in _ (by omega)]; omega
    have hw' : IntKind.i64.wrap (h.things.length : Int) = h.things.length := IntWalk.i64_in _ (by omega)
    refine VS.lift 3 [.d, .f 3] (by simp (maxSteps := 1000000) [hF]) (by simp (maxSteps := 1000000) [hF]) (by simp [isNode]) (by simp (maxSteps := 1000000) [hF]) ?_
    generalize hK : VS _ _ _ = KK; simp [hF, St.lift, AV.lift, liftPl, stripP, nodeAV]; (try subst hK)
    refine VS.lift 0 [.d, .f 1] (by simp (maxSteps := 1000000) [hF]) (by simp (maxSteps := 1000000) [hF]) (by simp [isNode]) (by simp (maxSteps := 1000000) [hF]) ?_
    generalize hK : VS _ _ _ = KK; simp [hF, St.lift, AV.lift, liftPl, stripP, nodeAV]; (try subst hK)
    repeat first
      | refine VS.seq ?_
      | (refine VS.keepAt 3 [0, 3] ?_; generalize hK : VS _ _ _ = KK; (try simp); (try subst hK); refine VS.drawn tabOk mixedOk (id := 3) [] [⟨0, 1, 4096, 5⟩, ⟨0, 1, 8192, 5⟩, ⟨2, 8192, 16384, 5⟩, ⟨4, 16384, 32768, 5⟩, ⟨8, 32768, 65536, 6⟩, ⟨0, 8, 131072, 6⟩, ⟨32, 131072, 262144, 4⟩, ⟨80, 327680, 524288, 0⟩, ⟨255, 4096, 1048576, 5⟩, ⟨511, 1048576, 2097152, 5⟩, ⟨767, 2621440, 0, 0⟩] (.take 0 (.take 1 (.take 2 (.take 3 (.take 4 (.take 5 (.fork (.alt 6 (.fork (.alt 7 (.take 8 (.take 9 (.fork (.alt 10 (.done) (.nil))))) (.nil))) (.nil))))))))) (.run [0, 1, 2, 3, 4, 5, 6, 7, 8, 9, 10] (.done)) (by kernel_rfl) (by kernel_rfl) (by kernel_rfl) ?_; generalize hK : VS _ _ _ = KK; simp only [opsVc_run, opsVc_both, opsVc_chk, opsVc_done, opsVc_yes, pick_cons, pick_nil, List.getElem?_cons_zero, List.getElem?_cons_succ]; simp (maxSteps := 1000000) [hF, hp, hm, him, c1, c2, hw, hw']; (try subst hK); try (refine VS.keep [0] ?_; generalize hK : VS _ _ _ = KK; simp; (try subst hK)))
      | (refine VS.keepAt 4 [0] ?_; generalize hK : VS _ _ _ = KK; (try simp); (try subst hK); refine VS.region tabOk (id := 4) [] (by kernel_rfl) ?_; generalize hK : VS _ _ _ = KK; simp (maxSteps := 1000000) [hF, hp, hm, him, c1, c2, hw, hw']; (try subst hK); try (refine VS.keep [4, 5] ?_; generalize hK : VS _ _ _ = KK; simp; (try subst hK)))
    refine VS.widen [(0, [.d]), (1, [])] (by simp [covers, mpre]) ?_
    try refine VS.ret ?_
    repeat first | refine blockN_ret ?_ | refine loopN_ret ?_
    refine endK.of [4, 5] [0, 1] [(0, [.d]), (1, [])] (by simp [hF]) (by simp [covers, mpre]) ?_
    simp [hF, retK, dH, hc]
theorem add_n (h : Hs) (hl : h.things.length ≤ 400) (o : Int) (l : Bool) (w : Int) (f : Bool) : Meets Try.prog 74 [dH h]
    (.cons (.ptr 0 [.d]) (.cons (.agg (.cons (avInt o) (.cons (avBool l) (.cons (avInt w) (.cons (.nils 1) (.cons (avBool f) .nil)))))) .nil))
    fun av X κ => av = two (addOf h ⟨o, l, w, [], f⟩).2 ∧ X = [dH (addOf h ⟨o, l, w, [], f⟩).1] ∧ κ = [(0, [.d])] := by
  have hp := tg_app h.things o l w [] f
  rw [dInts_nil] at hp
  have hm := tgs_mid h.things ⟨o, l, w, [], f⟩
  by_cases hf : (400 : Int) ≤ h.things.length
  · have hf' : 400 ≤ h.things.length := by omega
    have hc : addOf h ⟨o, l, w, [], f⟩ = (h, 0, 9) := by simp [addOf, hf']
    refine Meets.of_vs tabOk Try.func74 (body := ?_) ?_ (by kernel_rfl) Try.ntmps74 (rs := [.tmp 4, .tmp 5]) (by kernel_rfl) rfl (by simp [AV.len]) (by simp only [envOf]; exact rfl) ?_
    rotate_left
    · rfl
    intro w0 I0 F0 hF
    repeat first
      | refine VS.seq ?_
      | (refine VS.keepAt 0 [0, 1] ?_; generalize hK : VS _ _ _ = KK; (try simp); (try subst hK); refine VS.region tabOk (id := 0) [] (by kernel_rfl) ?_; generalize hK : VS _ _ _ = KK; simp (maxSteps := 1000000) [hF, dH, hf]; (try subst hK); try (refine VS.keep [0, 3] ?_; generalize hK : VS _ _ _ = KK; simp; (try subst hK)))
      | (refine VS.keepAt 1 [0, 3] ?_; generalize hK : VS _ _ _ = KK; (try simp); (try subst hK); refine VS.region tabOk (id := 1) [] (by kernel_rfl) ?_; generalize hK : VS _ _ _ = KK; simp (maxSteps := 1000000) [hF, dH, hf]; (try subst hK); try (refine VS.keep [0, 3, 11] ?_; generalize hK : VS _ _ _ = KK; simp; (try subst hK)))
      | (refine VS.keepAt 2 [] ?_; generalize hK : VS _ _ _ = KK; (try simp); (try subst hK); refine VS.region tabOk (id := 2) [] (by kernel_rfl) ?_; generalize hK : VS _ _ _ = KK; simp (maxSteps := 1000000) [hF, dH, hf]; (try subst hK); try (refine VS.keep [4, 5] ?_; generalize hK : VS _ _ _ = KK; simp; (try subst hK)))
      | (refine VS.cond ?_; generalize hK1 : VS _ _ _ = KK1; generalize hK2 : VS _ _ _ = KK2; simp (maxSteps := 1000000) [hF, dH, hf]; (try subst hK1); (try subst hK2))
    refine VS.widen [(0, [.d])] (by simp [covers, mpre]) ?_
    try refine VS.ret ?_
    repeat first | refine blockN_ret ?_ | refine loopN_ret ?_
    refine endK.of [4, 5] [0] [(0, [.d])] (by simp [hF]) (by simp [covers, mpre]) ?_
    simp [hF, retK, dH, hc]
  · have hf' : ¬ 400 ≤ h.things.length := by omega
    have hc : addOf h ⟨o, l, w, [], f⟩ = ({ h with things := h.things ++ [(⟨o, l, w, [], f⟩ : Tg)] }, (h.things.length : Int), 0) := by simp [addOf, hf']
    have c1 : (h.things.length + 1) * 56 ≤ 140737488355328 := by omega
    have c2 : h.things.length ≤ 9223372036854775806 := by omega
    have hw : IntKind.i64.wrap ((h.things.length : Int) + 1 - 1) = h.things.length := by rw [IntWalk.i64_in _ (by omega)]; omega
    have hw' : IntKind.i64.wrap (h.things.length : Int) = h.things.length := IntWalk.i64_in _ (by omega)
    refine Meets.of_vs tabOk Try.func74 (body := ?_) ?_ (by kernel_rfl) Try.ntmps74 (rs := [.tmp 4, .tmp 5]) (by kernel_rfl) rfl (by simp [AV.len]) (by simp only [envOf]; exact rfl) ?_
    rotate_left
    · rfl
    intro w0 I0 F0 hF
    repeat first
      | refine VS.seq ?_
      | refine VS.skip ?_
      | (refine VS.keepAt 0 [0, 1] ?_; generalize hK : VS _ _ _ = KK; (try simp); (try subst hK); refine VS.region tabOk (id := 0) [] (by kernel_rfl) ?_; generalize hK : VS _ _ _ = KK; simp (maxSteps := 1000000) [hF, dH, hf]; (try subst hK); try (refine VS.keep [0, 3] ?_; generalize hK : VS _ _ _ = KK; simp; (try subst hK)))
      | (refine VS.keepAt 1 [0, 3] ?_; generalize hK : VS _ _ _ = KK; (try simp); (try subst hK); refine VS.region tabOk (id := 1) [] (by kernel_rfl) ?_; generalize hK : VS _ _ _ = KK; simp (maxSteps := 1000000) [hF, dH, hf]; (try subst hK); try (refine VS.keep [0, 3, 11] ?_; generalize hK : VS _ _ _ = KK; simp; (try subst hK)))
      | (refine VS.cond ?_; generalize hK1 : VS _ _ _ = KK1; generalize hK2 : VS _ _ _ = KK2; simp (maxSteps := 1000000) [hF, dH, hf]; (try subst hK1); (try subst hK2))
    refine VS.lift 1 [.d, .f 3] (by simp (maxSteps := 1000000) [hF]) (by simp (maxSteps := 1000000) [hF]) (by simp [isNode]) (by simp (maxSteps := 1000000) [hF]) ?_
    generalize hK : VS _ _ _ = KK; simp [hF, St.lift, AV.lift, liftPl, stripP, nodeAV]; (try subst hK)
    refine VS.lift 0 [.d, .f 1] (by simp (maxSteps := 1000000) [hF]) (by simp (maxSteps := 1000000) [hF]) (by simp [isNode]) (by simp (maxSteps := 1000000) [hF]) ?_
    generalize hK : VS _ _ _ = KK; simp [hF, St.lift, AV.lift, liftPl, stripP, nodeAV]; (try subst hK)
    repeat first
      | refine VS.seq ?_
      | (refine VS.keepAt 3 [0, 3] ?_; generalize hK : VS _ _ _ = KK; (try simp); (try subst hK); refine VS.drawn tabOk mixedOk (id := 3) [] [⟨0, 1, 4096, 5⟩, ⟨0, 1, 8192, 5⟩, ⟨2, 8192, 16384, 5⟩, ⟨4, 16384, 32768, 5⟩, ⟨8, 32768, 65536, 6⟩, ⟨0, 8, 131072, 6⟩, ⟨32, 131072, 262144, 4⟩, ⟨80, 327680, 524288, 0⟩, ⟨255, 4096, 1048576, 5⟩, ⟨511, 1048576, 2097152, 5⟩, ⟨767, 2621440, 0, 0⟩] (.take 0 (.take 1 (.take 2 (.take 3 (.take 4 (.take 5 (.fork (.alt 6 (.fork (.alt 7 (.take 8 (.take 9 (.fork (.alt 10 (.done) (.nil))))) (.nil))) (.nil))))))))) (.run [0, 1, 2, 3, 4, 5, 6, 7, 8, 9, 10] (.done)) (by kernel_rfl) (by kernel_rfl) (by kernel_rfl) ?_; generalize hK : VS _ _ _ = KK; simp only [opsVc_run, opsVc_both, opsVc_chk, opsVc_done, opsVc_yes, pick_cons, pick_nil, List.getElem?_cons_zero, List.getElem?_cons_succ]; simp (maxSteps := 1000000) [hF, hp, hm, c1, c2, hw, hw']; (try subst hK); try (refine VS.keep [0] ?_; generalize hK : VS _ _ _ = KK; simp; (try subst hK)))
      | (refine VS.keepAt 4 [0] ?_; generalize hK : VS _ _ _ = KK; (try simp); (try subst hK); refine VS.region tabOk (id := 4) [] (by kernel_rfl) ?_; generalize hK : VS _ _ _ = KK; simp (maxSteps := 1000000) [hF, hp, hm, c1, c2, hw, hw']; (try subst hK); try (refine VS.keep [4, 5] ?_; generalize hK : VS _ _ _ = KK; simp; (try subst hK)))
    refine VS.widen [(0, [.d])] (by simp [covers, mpre]) ?_
    try refine VS.ret ?_
    repeat first | refine blockN_ret ?_ | refine loopN_ret ?_
    refine endK.of [4, 5] [0] [(0, [.d])] (by simp [hF]) (by simp [covers, mpre]) ?_
    simp [hF, retK, dH, hc]

/- (*cabochon/isolate.House).Leaf -/
theorem leaf_ok (h : Hs) (hl : h.things.length ≤ 400) (who w : Int) : Meets Try.prog 31 [dH h] (.cons (.ptr 0 [.d]) (.cons (avInt who) (.cons (avInt w) .nil)))
    fun av X κ => av = two (leafOf h who w).2 ∧ X = [dH (leafOf h who w).1] ∧ κ = [(0, [.d])] := by
  have hw0 : IntKind.i64.wrap (-1000000000000000) = -1000000000000000 := by decide
  by_cases h1 : w < -1000000000000000
  · have hc : leafOf h who w = (h, 0, 1) := by simp [leafOf, h1]
    refine Meets.of_vs tabOk Try.func31 (body := ?_) ?_ (by kernel_rfl) Try.ntmps31 (rs := [.tmp 6, .tmp 7]) (by kernel_rfl) rfl (by simp [AV.len]) (by simp only [envOf]; exact rfl) ?_
    rotate_left
    · rfl
    intro w0 I0 F0 hF
    repeat first
      | refine VS.seq ?_
      | (refine VS.keepAt 0 [0, 1, 2] ?_; generalize hK : VS _ _ _ = KK; (try simp); (try subst hK); refine VS.region tabOk (id := 0) [] (by kernel_rfl) ?_; generalize hK : VS _ _ _ = KK; simp (maxSteps := 1000000) [hF, h1]; (try subst hK); try (refine VS.keep [0, 1, 2] ?_; generalize hK : VS _ _ _ = KK; simp; (try subst hK)))
      | (refine VS.keepAt 1 [0, 1, 2] ?_; generalize hK : VS _ _ _ = KK; (try simp); (try subst hK); refine VS.region tabOk (id := 1) [(2, 11)] (by kernel_rfl) ?_; generalize hK : VS _ _ _ = KK; simp (maxSteps := 1000000) [hF, h1]; (try subst hK); try (refine VS.keep [0, 1, 2, 14] ?_; generalize hK : VS _ _ _ = KK; simp; (try subst hK)))
      | (refine VS.keepAt 2 [] ?_; generalize hK : VS _ _ _ = KK; (try simp); (try subst hK); refine VS.region tabOk (id := 2) [] (by kernel_rfl) ?_; generalize hK : VS _ _ _ = KK; simp (maxSteps := 1000000) [hF, h1]; (try subst hK); try (refine VS.keep [6, 7] ?_; generalize hK : VS _ _ _ = KK; simp; (try subst hK)))
      | (refine VS.cond ?_; generalize hK1 : VS _ _ _ = KK1; generalize hK2 : VS _ _ _ = KK2; simp (maxSteps := 1000000) [hF, h1]; (try subst hK1); (try subst hK2))
    refine VS.widen [(0, [.d])] (by simp [covers, mpre]) ?_
    try refine VS.ret ?_
    repeat first | refine blockN_ret ?_ | refine loopN_ret ?_
    refine endK.of [6, 7] [0] [(0, [.d])] (by simp [hF]) (by simp [covers, mpre]) ?_
    simp [hF, retK, dH, hc]
  · by_cases h2 : 1000000000000000 < w
    · have hc : leafOf h who w = (h, 0, 1) := by simp [leafOf, h2]
      refine Meets.of_vs tabOk Try.func31 (body := ?_) ?_ (by kernel_rfl) Try.ntmps31 (rs := [.tmp 6, .tmp 7]) (by kernel_rfl) rfl (by simp [AV.len]) (by simp only [envOf]; exact rfl) ?_
      rotate_left
      · rfl
      intro w0 I0 F0 hF
      repeat first
        | refine VS.seq ?_
        | (refine VS.keepAt 0 [0, 1, 2] ?_; generalize hK : VS _ _ _ = KK; (try simp); (try subst hK); refine VS.region tabOk (id := 0) [] (by kernel_rfl) ?_; generalize hK : VS _ _ _ = KK; simp (maxSteps := 1000000) [hF, h1, h2]; (try subst hK); try (refine VS.keep [0, 1, 2] ?_; generalize hK : VS _ _ _ = KK; simp; (try subst hK)))
        | (refine VS.keepAt 1 [0, 1, 2] ?_; generalize hK : VS _ _ _ = KK; (try simp); (try subst hK); refine VS.region tabOk (id := 1) [(2, 11)] (by kernel_rfl) ?_; generalize hK : VS _ _ _ = KK; simp (maxSteps := 1000000) [hF, h1, h2]; (try subst hK); try (refine VS.keep [0, 1, 2, 14] ?_; generalize hK : VS _ _ _ = KK; simp; (try subst hK)))
        | (refine VS.keepAt 2 [] ?_; generalize hK : VS _ _ _ = KK; (try simp); (try subst hK); refine VS.region tabOk (id := 2) [] (by kernel_rfl) ?_; generalize hK : VS _ _ _ = KK; simp (maxSteps := 1000000) [hF, h1, h2]; (try subst hK); try (refine VS.keep [6, 7] ?_; generalize hK : VS _ _ _ = KK; simp; (try subst hK)))
        | (refine VS.cond ?_; generalize hK1 : VS _ _ _ = KK1; generalize hK2 : VS _ _ _ = KK2; simp (maxSteps := 1000000) [hF, h1, h2]; (try subst hK1); (try subst hK2))
      refine VS.widen [(0, [.d])] (by simp [covers, mpre]) ?_
      try refine VS.ret ?_
      repeat first | refine blockN_ret ?_ | refine loopN_ret ?_
      refine endK.of [6, 7] [0] [(0, [.d])] (by simp [hF]) (by simp [covers, mpre]) ?_
      simp [hF, retK, dH, hc]
    · refine Meets.of_vs tabOk Try.func31 (body := ?_) ?_ (by kernel_rfl) Try.ntmps31 (rs := [.tmp 6, .tmp 7]) (by kernel_rfl) rfl (by simp [AV.len]) (by simp only [envOf]; exact rfl) ?_
      rotate_left
      · rfl
      intro w0 I0 F0 hF
      repeat first
        | refine VS.seq ?_
        | refine VS.skip ?_
        | (refine VS.keepAt 0 [0, 1, 2] ?_; generalize hK : VS _ _ _ = KK; (try simp); (try subst hK); refine VS.region tabOk (id := 0) [] (by kernel_rfl) ?_; generalize hK : VS _ _ _ = KK; simp (maxSteps := 1000000) [hF, h1, h2]; (try subst hK); try (refine VS.keep [0, 1, 2] ?_; generalize hK : VS _ _ _ = KK; simp; (try subst hK)))
        | (refine VS.keepAt 1 [0, 1, 2] ?_; generalize hK : VS _ _ _ = KK; (try simp); (try subst hK); refine VS.region tabOk (id := 1) [(2, 11)] (by kernel_rfl) ?_; generalize hK : VS _ _ _ = KK; simp (maxSteps := 1000000) [hF, h1, h2]; (try subst hK); try (refine VS.keep [0, 1, 2, 14] ?_; generalize hK : VS _ _ _ = KK; simp; (try subst hK)))
        | (refine VS.keepAt 3 [0, 1, 2] ?_; generalize hK : VS _ _ _ = KK; (try simp); (try subst hK); refine VS.region tabOk (id := 3) [] (by kernel_rfl) ?_; generalize hK : VS _ _ _ = KK; simp (maxSteps := 1000000) [hF, h1, h2]; (try subst hK); try (refine VS.keep [0, 1, 2, 8] ?_; generalize hK : VS _ _ _ = KK; simp; (try subst hK)))
        | (refine VS.cond ?_; generalize hK1 : VS _ _ _ = KK1; generalize hK2 : VS _ _ _ = KK2; simp (maxSteps := 1000000) [hF, h1, h2]; (try subst hK1); (try subst hK2))
      by_cases hz : askOf h who [] = 0
      · have hc : leafOf h who w = addOf h ⟨who, false, w, [], false⟩ := by simp [leafOf, h1, h2, hz]
        refine (ask_cn h who).call [(0, [])] (by simp) (by simp (maxSteps := 1000000) [hF, hz, dH]) (by simp (maxSteps := 1000000) [hF, hz, dH]) (by simp (maxSteps := 1000000) [hF, hz, dH]) (by simp) ?_
        rintro av X κ ⟨rfl, rfl, rfl⟩
        generalize hK : VS _ _ _ = KK; simp (maxSteps := 1000000) [hF, hz, dH]; (try subst hK)
        repeat first
          | refine VS.seq ?_
          | refine VS.skip ?_
          | (refine VS.keepAt 4 [0, 1, 2, 8] ?_; generalize hK : VS _ _ _ = KK; (try simp); (try subst hK); refine VS.region tabOk (id := 4) [] (by kernel_rfl) ?_; generalize hK : VS _ _ _ = KK; simp (maxSteps := 1000000) [hF, hz]; (try subst hK); try (refine VS.keep [0, 1, 2, 8, 19] ?_; generalize hK : VS _ _ _ = KK; simp; (try subst hK)))
          | (refine VS.keepAt 6 [0, 1, 2] ?_; generalize hK : VS _ _ _ = KK; (try simp); (try subst hK); refine VS.region tabOk (id := 6) [] (by kernel_rfl) ?_; generalize hK : VS _ _ _ = KK; simp (maxSteps := 1000000) [hF, hz]; (try subst hK); try (refine VS.keep [6, 7] ?_; generalize hK : VS _ _ _ = KK; simp; (try subst hK)))
          | (refine VS.cond ?_; generalize hK1 : VS _ _ _ = KK1; generalize hK2 : VS _ _ _ = KK2; simp (maxSteps := 1000000) [hF, hz]; (try subst hK1); (try subst hK2))
        refine (add_n h hl who false w false).call [(0, [])] (by simp) (by simp (maxSteps := 1000000) [hF, dH]) (by simp (maxSteps := 1000000) [hF, dH]) (by simp (maxSteps := 1000000) [hF, dH]) (by simp) ?_
        rintro av X κ ⟨rfl, rfl, rfl⟩
        generalize hK : VS _ _ _ = KK; simp (maxSteps := 1000000) [hF, dH]; (try subst hK)
        refine VS.widen [(0, [.d])] (by simp [covers, mpre]) ?_
        try refine VS.ret ?_
        repeat first | refine blockN_ret ?_ | refine loopN_ret ?_
        refine endK.of [6, 7] [0] [(0, [.d])] (by simp [hF]) (by simp [covers, mpre]) ?_
        simp [hF, retK, dH, hc]
      · have hc : leafOf h who w = (h, 0, askOf h who []) := by simp [leafOf, h1, h2, hz]
        refine (ask_cn h who).call [(0, [])] (by simp) (by simp (maxSteps := 1000000) [hF, hz, dH]) (by simp (maxSteps := 1000000) [hF, hz, dH]) (by simp (maxSteps := 1000000) [hF, hz, dH]) (by simp) ?_
        rintro av X κ ⟨rfl, rfl, rfl⟩
        generalize hK : VS _ _ _ = KK; simp (maxSteps := 1000000) [hF, hz, dH]; (try subst hK)
        repeat first
          | refine VS.seq ?_
          | (refine VS.keepAt 4 [0, 1, 2, 8] ?_; generalize hK : VS _ _ _ = KK; (try simp); (try subst hK); refine VS.region tabOk (id := 4) [] (by kernel_rfl) ?_; generalize hK : VS _ _ _ = KK; simp (maxSteps := 1000000) [hF, hz]; (try subst hK); try (refine VS.keep [0, 1, 2, 8, 19] ?_; generalize hK : VS _ _ _ = KK; simp; (try subst hK)))
          | (refine VS.keepAt 5 [8] ?_; generalize hK : VS _ _ _ = KK; (try simp); (try subst hK); refine VS.region tabOk (id := 5) [] (by kernel_rfl) ?_; generalize hK : VS _ _ _ = KK; simp (maxSteps := 1000000) [hF, hz]; (try subst hK); try (refine VS.keep [6, 7] ?_; generalize hK : VS _ _ _ = KK; simp; (try subst hK)))
          | (refine VS.cond ?_; generalize hK1 : VS _ _ _ = KK1; generalize hK2 : VS _ _ _ = KK2; simp (maxSteps := 1000000) [hF, hz]; (try subst hK1); (try subst hK2))
        refine VS.widen [(0, [.d])] (by simp [covers, mpre]) ?_
        try refine VS.ret ?_
        repeat first | refine blockN_ret ?_ | refine loopN_ret ?_
        refine endK.of [6, 7] [0] [(0, [.d])] (by simp [hF]) (by simp [covers, mpre]) ?_
        simp [hF, retK, dH, hc]
end Go.Proofs.Ytkkbcpcihadkhaa

/- A new house; lists. -/
namespace Go.Proofs.Ytkkbcpcihadkhaa
set_option linter.all false
open Go.Vc Go.Proofs
set_option linter.unusedSimpArgs false
set_option linter.unusedVariables false
set_option maxRecDepth 100000
set_option maxHeartbeats 4000000
attribute [local irreducible] CallW EqK

/- slices.Clone[[]int,int] -/
theorem clone_ok (ex : Bool) (l : List Int) (hl : l.length ≤ 100000000) : Meets Try.prog 48 [] (.cons (.imm 1 (dInts l) ex) .nil)
    fun av X κ => av = .sub 0 [] 0 l.length false ∧ X = [.sl true () 1 (dInts l)] ∧ κ = [] := by
  refine Meets.of_vs tabOk Try.func48 (body := ?_) ?_ (by kernel_rfl) Try.ntmps48 (rs := [.tmp 2]) (by kernel_rfl) rfl (by simp [AV.len]) (by simp only [envOf]; exact rfl) ?_
  rotate_left
  · rfl
  intro w0 I0 F0 hF
  repeat first
    | refine VS.seq ?_
    | (refine VS.keepAt 0 [0] ?_; generalize hK : VS _ _ _ = KK; (try simp); (try subst hK); refine VS.region tabOk (id := 0) [] (by kernel_rfl) ?_; generalize hK : VS _ _ _ = KK; simp (maxSteps := 1000000) [hF]; (try subst hK); try (refine VS.keep [0] ?_; generalize hK : VS _ _ _ = KK; simp; (try subst hK)))
    | (refine VS.keepAt 1 [0] ?_; generalize hK : VS _ _ _ = KK; (try simp); (try subst hK); refine VS.region tabOk (id := 1) [] (by kernel_rfl) ?_; generalize hK : VS _ _ _ = KK; simp (maxSteps := 1000000) [hF]; (try subst hK); try (refine VS.keep [0, 4] ?_; generalize hK : VS _ _ _ = KK; simp; (try subst hK)))
  refine ⟨?_, fun h0 => ?_⟩
  · repeat first
      | refine VS.seq ?_
      | refine VS.skip ?_
      | refine ⟨⟨by omega, by omega⟩, ?_⟩
      | (refine VS.keepAt 3 [0] ?_; generalize hK : VS _ _ _ = KK; (try simp); (try subst hK); refine VS.region tabOk (id := 3) [] (by kernel_rfl) ?_; generalize hK : VS _ _ _ = KK; simp (maxSteps := 1000000) [hF]; (try subst hK); try (refine VS.keep [2] ?_; generalize hK : VS _ _ _ = KK; simp; (try subst hK)))
      | (refine VS.cond ?_; generalize hK1 : VS _ _ _ = KK1; generalize hK2 : VS _ _ _ = KK2; simp (maxSteps := 1000000) [hF]; (try subst hK1); (try subst hK2))
    try refine VS.ret ?_
    repeat first | refine blockN_ret ?_ | refine loopN_ret ?_
    refine endK.of [2] [0] [] (by simp [hF]) (by simp [covers, mpre]) ?_
    simp [hF, retK]
  · repeat first
      | refine VS.seq ?_
      | (refine VS.keepAt 2 [] ?_; generalize hK : VS _ _ _ = KK; (try simp); (try subst hK); refine VS.region tabOk (id := 2) [] (by kernel_rfl) ?_; generalize hK : VS _ _ _ = KK; simp (maxSteps := 1000000) [hF]; (try subst hK); try (refine VS.keep [2] ?_; generalize hK : VS _ _ _ = KK; simp; (try subst hK)))
      | (refine VS.cond ?_; generalize hK1 : VS _ _ _ = KK1; generalize hK2 : VS _ _ _ = KK2; simp (maxSteps := 1000000) [hF]; (try subst hK1); (try subst hK2))
    refine VS.hold0 2 1 (by simp) ?_
    subst h0
    try refine VS.ret ?_
    repeat first | refine blockN_ret ?_ | refine loopN_ret ?_
    refine endK.of [2] [0] [] (by simp [hF]) (by simp [covers, mpre]) ?_
    simp [hF, retK, dInts]

/- (*cabochon/isolate.House).List -/
theorem list_ok (h : Hs) (hl : h.things.length ≤ 400) (who : Int) (l : List Int) (ex : Bool) (hll : l.length ≤ 100000000) : Meets Try.prog 32 [dH h] (.cons (.ptr 0 [.d]) (.cons (avInt who) (.cons (.imm 1 (dInts l) ex) .nil)))
    fun av X κ => av = two (listOf h who l).2 ∧ X = [dH (listOf h who l).1] ∧ κ = [(0, [.d])] := by
  by_cases h1 : 50 < l.length
  · have hc : listOf h who l = (h, 0, 1) := by simp [listOf, h1]
    have h1i : (50 : Int) < l.length := by omega
    refine Meets.of_vs tabOk Try.func32 (body := ?_) ?_ (by kernel_rfl) Try.ntmps32 (rs := [.tmp 6, .tmp 7]) (by kernel_rfl) rfl (by simp [AV.len]) (by simp only [envOf]; exact rfl) ?_
    rotate_left
    · rfl
    intro w0 I0 F0 hF
    repeat first
      | refine VS.seq ?_
      | (refine VS.keepAt 0 [0, 1, 2] ?_; generalize hK : VS _ _ _ = KK; (try simp); (try subst hK); refine VS.region tabOk (id := 0) [] (by kernel_rfl) ?_; generalize hK : VS _ _ _ = KK; simp (maxSteps := 1000000) [hF, h1, h1i]; (try subst hK); try (refine VS.keep [0, 1, 2] ?_; generalize hK : VS _ _ _ = KK; simp; (try subst hK)))
      | (refine VS.keepAt 1 [0, 1, 2] ?_; generalize hK : VS _ _ _ = KK; (try simp); (try subst hK); refine VS.region tabOk (id := 1) [] (by kernel_rfl) ?_; generalize hK : VS _ _ _ = KK; simp (maxSteps := 1000000) [hF, h1, h1i]; (try subst hK); try (refine VS.keep [0, 1, 2, 11] ?_; generalize hK : VS _ _ _ = KK; simp; (try subst hK)))
      | (refine VS.keepAt 2 [] ?_; generalize hK : VS _ _ _ = KK; (try simp); (try subst hK); refine VS.region tabOk (id := 2) [] (by kernel_rfl) ?_; generalize hK : VS _ _ _ = KK; simp (maxSteps := 1000000) [hF, h1, h1i]; (try subst hK); try (refine VS.keep [6, 7] ?_; generalize hK : VS _ _ _ = KK; simp; (try subst hK)))
      | (refine VS.cond ?_; generalize hK1 : VS _ _ _ = KK1; generalize hK2 : VS _ _ _ = KK2; simp (maxSteps := 1000000) [hF, h1, h1i]; (try subst hK1); (try subst hK2))
    refine VS.widen [(0, [.d])] (by simp [covers, mpre]) ?_
    try refine VS.ret ?_
    repeat first | refine blockN_ret ?_ | refine loopN_ret ?_
    refine endK.of [6, 7] [0] [(0, [.d])] (by simp [hF]) (by simp [covers, mpre]) ?_
    simp [hF, retK, dH, hc]
  · have h1i : ¬ (50 : Int) < l.length := by omega
    refine Meets.of_vs tabOk Try.func32 (body := ?_) ?_ (by kernel_rfl) Try.ntmps32 (rs := [.tmp 6, .tmp 7]) (by kernel_rfl) rfl (by simp [AV.len]) (by simp only [envOf]; exact rfl) ?_
    rotate_left
    · rfl
    intro w0 I0 F0 hF
    repeat first
      | refine VS.seq ?_
      | refine VS.skip ?_
      | (refine VS.keepAt 0 [0, 1, 2] ?_; generalize hK : VS _ _ _ = KK; (try simp); (try subst hK); refine VS.region tabOk (id := 0) [] (by kernel_rfl) ?_; generalize hK : VS _ _ _ = KK; simp (maxSteps := 1000000) [hF, h1, h1i]; (try subst hK); try (refine VS.keep [0, 1, 2] ?_; generalize hK : VS _ _ _ = KK; simp; (try subst hK)))
      | (refine VS.keepAt 1 [0, 1, 2] ?_; generalize hK : VS _ _ _ = KK; (try simp); (try subst hK); refine VS.region tabOk (id := 1) [] (by kernel_rfl) ?_; generalize hK : VS _ _ _ = KK; simp (maxSteps := 1000000) [hF, h1, h1i]; (try subst hK); try (refine VS.keep [0, 1, 2, 11] ?_; generalize hK : VS _ _ _ = KK; simp; (try subst hK)))
      | (refine VS.keepAt 3 [0, 1, 2] ?_; generalize hK : VS _ _ _ = KK; (try simp); (try subst hK); refine VS.region tabOk (id := 3) [] (by kernel_rfl) ?_; generalize hK : VS _ _ _ = KK; simp (maxSteps := 1000000) [hF, h1, h1i]; (try subst hK); try (refine VS.keep [0, 1, 2, 8] ?_; generalize hK : VS _ _ _ = KK; simp; (try subst hK)))
      | (refine VS.cond ?_; generalize hK1 : VS _ _ _ = KK1; generalize hK2 : VS _ _ _ = KK2; simp (maxSteps := 1000000) [hF, h1, h1i]; (try subst hK1); (try subst hK2))
    by_cases hz : askOf h who l = 0
    · have hc : listOf h who l = addOf h ⟨who, true, 0, l, false⟩ := by simp [listOf, h1, hz]
      refine (ask_ci h who ex l hll).call [(0, [])] (by simp) (by simp (maxSteps := 1000000) [hF, hz, dH]) (by simp (maxSteps := 1000000) [hF, hz, dH]) (by simp (maxSteps := 1000000) [hF, hz, dH]) (by simp) ?_
      rintro av X κ ⟨rfl, rfl, rfl⟩
      generalize hK : VS _ _ _ = KK; simp (maxSteps := 1000000) [hF, hz, dH]; (try subst hK)
      repeat first
        | refine VS.seq ?_
        | refine VS.skip ?_
        | (refine VS.keepAt 4 [0, 1, 2, 8] ?_; generalize hK : VS _ _ _ = KK; (try simp); (try subst hK); refine VS.region tabOk (id := 4) [] (by kernel_rfl) ?_; generalize hK : VS _ _ _ = KK; simp (maxSteps := 1000000) [hF, hz]; (try subst hK); try (refine VS.keep [0, 1, 2, 8, 17] ?_; generalize hK : VS _ _ _ = KK; simp; (try subst hK)))
        | (refine VS.keepAt 6 [0, 1, 2] ?_; generalize hK : VS _ _ _ = KK; (try simp); (try subst hK); refine VS.region tabOk (id := 6) [] (by kernel_rfl) ?_; generalize hK : VS _ _ _ = KK; simp (maxSteps := 1000000) [hF, hz]; (try subst hK); try (refine VS.keep [6, 7] ?_; generalize hK : VS _ _ _ = KK; simp; (try subst hK)))
        | (refine VS.cond ?_; generalize hK1 : VS _ _ _ = KK1; generalize hK2 : VS _ _ _ = KK2; simp (maxSteps := 1000000) [hF, hz]; (try subst hK1); (try subst hK2))
      refine (clone_ok ex l hll).call [] (by simp) (by simp (maxSteps := 1000000) [hF, dH]) (by simp (maxSteps := 1000000) [hF, dH]) (by simp (maxSteps := 1000000) [hF, dH]) (by simp) ?_
      rintro av X κ ⟨rfl, rfl, rfl⟩
      generalize hK : VS _ _ _ = KK; simp (maxSteps := 1000000) [hF, dH]; (try subst hK)
      refine (add_l h hl who true 0 l false).call [(0, []), (1, [])] (by simp) (by simp (maxSteps := 1000000) [hF, dH]) (by simp (maxSteps := 1000000) [hF, dH]) (by simp (maxSteps := 1000000) [hF, dH]) (by simp) ?_
      rintro av X κ ⟨rfl, rfl, rfl⟩
      generalize hK : VS _ _ _ = KK; simp (maxSteps := 1000000) [hF, dH]; (try subst hK)
      refine VS.widen [(0, [.d])] (by simp [covers, mpre]) ?_
      try refine VS.ret ?_
      repeat first | refine blockN_ret ?_ | refine loopN_ret ?_
      refine endK.of [6, 7] [0] [(0, [.d])] (by simp [hF]) (by simp [covers, mpre]) ?_
      simp [hF, retK, dH, hc]
    · have hc : listOf h who l = (h, 0, askOf h who l) := by simp [listOf, h1, hz]
      refine (ask_ci h who ex l hll).call [(0, [])] (by simp) (by simp (maxSteps := 1000000) [hF, hz, dH]) (by simp (maxSteps := 1000000) [hF, hz, dH]) (by simp (maxSteps := 1000000) [hF, hz, dH]) (by simp) ?_
      rintro av X κ ⟨rfl, rfl, rfl⟩
      generalize hK : VS _ _ _ = KK; simp (maxSteps := 1000000) [hF, hz, dH]; (try subst hK)
      repeat first
        | refine VS.seq ?_
        | (refine VS.keepAt 4 [0, 1, 2, 8] ?_; generalize hK : VS _ _ _ = KK; (try simp); (try subst hK); refine VS.region tabOk (id := 4) [] (by kernel_rfl) ?_; generalize hK : VS _ _ _ = KK; simp (maxSteps := 1000000) [hF, hz]; (try subst hK); try (refine VS.keep [0, 1, 2, 8, 17] ?_; generalize hK : VS _ _ _ = KK; simp; (try subst hK)))
        | (refine VS.keepAt 5 [8] ?_; generalize hK : VS _ _ _ = KK; (try simp); (try subst hK); refine VS.region tabOk (id := 5) [] (by kernel_rfl) ?_; generalize hK : VS _ _ _ = KK; simp (maxSteps := 1000000) [hF, hz]; (try subst hK); try (refine VS.keep [6, 7] ?_; generalize hK : VS _ _ _ = KK; simp; (try subst hK)))
        | (refine VS.cond ?_; generalize hK1 : VS _ _ _ = KK1; generalize hK2 : VS _ _ _ = KK2; simp (maxSteps := 1000000) [hF, hz]; (try subst hK1); (try subst hK2))
      refine VS.widen [(0, [.d])] (by simp [covers, mpre]) ?_
      try refine VS.ret ?_
      repeat first | refine blockN_ret ?_ | refine loopN_ret ?_
      refine endK.of [6, 7] [0] [(0, [.d])] (by simp [hF]) (by simp [covers, mpre]) ?_
      simp [hF, retK, dH, hc]

def newH (n : Nat) : Hs := ⟨List.replicate n ⟨[], false⟩, []⟩
/- cabochon/isolate.New -/
theorem new_bad (n : Int) (hn : n < 1 ∨ 8 < n) : Meets Try.prog 23 [] (.cons (avInt n) .nil) fun av X κ => av = avTwo avNil 1 ∧ X = [] ∧ κ = [] := by
  by_cases h1 : n < 1
  · refine Meets.of_vs tabOk Try.func23 (body := ?_) ?_ (by kernel_rfl) Try.ntmps23 (rs := [.tmp 2, .tmp 3]) (by kernel_rfl) rfl (by simp [AV.len]) (by simp only [envOf]; exact rfl) ?_
    rotate_left
    · rfl
    intro w0 I0 F0 hF
    repeat first
      | refine VS.seq ?_
      | (refine VS.keepAt 0 [0] ?_; generalize hK : VS _ _ _ = KK; (try simp); (try subst hK); refine VS.region tabOk (id := 0) [] (by kernel_rfl) ?_; generalize hK : VS _ _ _ = KK; simp (maxSteps := 1000000) [hF, h1]; (try subst hK); try (refine VS.keep [0] ?_; generalize hK : VS _ _ _ = KK; simp; (try subst hK)))
      | (refine VS.keepAt 1 [0] ?_; generalize hK : VS _ _ _ = KK; (try simp); (try subst hK); refine VS.region tabOk (id := 1) [(2, 6)] (by kernel_rfl) ?_; generalize hK : VS _ _ _ = KK; simp (maxSteps := 1000000) [hF, h1]; (try subst hK); try (refine VS.keep [0, 9] ?_; generalize hK : VS _ _ _ = KK; simp; (try subst hK)))
      | (refine VS.keepAt 2 [] ?_; generalize hK : VS _ _ _ = KK; (try simp); (try subst hK); refine VS.region tabOk (id := 2) [] (by kernel_rfl) ?_; generalize hK : VS _ _ _ = KK; simp (maxSteps := 1000000) [hF, h1]; (try subst hK); try (refine VS.keep [2, 3] ?_; generalize hK : VS _ _ _ = KK; simp; (try subst hK)))
      | (refine VS.cond ?_; generalize hK1 : VS _ _ _ = KK1; generalize hK2 : VS _ _ _ = KK2; simp (maxSteps := 1000000) [hF, h1]; (try subst hK1); (try subst hK2))
    try refine VS.ret ?_
    repeat first | refine blockN_ret ?_ | refine loopN_ret ?_
    refine endK.of [2, 3] [] [] (by simp [hF]) (by simp [covers, mpre]) ?_
    simp [hF, retK]
  · have h2 : 8 < n := by omega
    refine Meets.of_vs tabOk Try.func23 (body := ?_) ?_ (by kernel_rfl) Try.ntmps23 (rs := [.tmp 2, .tmp 3]) (by kernel_rfl) rfl (by simp [AV.len]) (by simp only [envOf]; exact rfl) ?_
    rotate_left
    · rfl
    intro w0 I0 F0 hF
    repeat first
      | refine VS.seq ?_
      | (refine VS.keepAt 0 [0] ?_; generalize hK : VS _ _ _ = KK; (try simp); (try subst hK); refine VS.region tabOk (id := 0) [] (by kernel_rfl) ?_; generalize hK : VS _ _ _ = KK; simp (maxSteps := 1000000) [hF, h1, h2]; (try subst hK); try (refine VS.keep [0] ?_; generalize hK : VS _ _ _ = KK; simp; (try subst hK)))
      | (refine VS.keepAt 1 [0] ?_; generalize hK : VS _ _ _ = KK; (try simp); (try subst hK); refine VS.region tabOk (id := 1) [(2, 6)] (by kernel_rfl) ?_; generalize hK : VS _ _ _ = KK; simp (maxSteps := 1000000) [hF, h1, h2]; (try subst hK); try (refine VS.keep [0, 9] ?_; generalize hK : VS _ _ _ = KK; simp; (try subst hK)))
      | (refine VS.keepAt 2 [] ?_; generalize hK : VS _ _ _ = KK; (try simp); (try subst hK); refine VS.region tabOk (id := 2) [] (by kernel_rfl) ?_; generalize hK : VS _ _ _ = KK; simp (maxSteps := 1000000) [hF, h1, h2]; (try subst hK); try (refine VS.keep [2, 3] ?_; generalize hK : VS _ _ _ = KK; simp; (try subst hK)))
      | (refine VS.cond ?_; generalize hK1 : VS _ _ _ = KK1; generalize hK2 : VS _ _ _ = KK2; simp (maxSteps := 1000000) [hF, h1, h2]; (try subst hK1); (try subst hK2))
    try refine VS.ret ?_
    repeat first | refine blockN_ret ?_ | refine loopN_ret ?_
    refine endK.of [2, 3] [] [] (by simp [hF]) (by simp [covers, mpre]) ?_
    simp [hF, retK]
theorem new_ok (n : Nat) (h1 : 1 ≤ n) (h2 : n ≤ 8) : Meets Try.prog 23 [] (.cons (avInt n) .nil) fun av X κ => av = avTwo (.ptr 0 [.d]) 0 ∧ X = [dH (newH n)] ∧ κ = [] := by
  have h1i : ¬ (n : Int) < 1 := by omega
  have h2i : ¬ (8 : Int) < n := by omega
  have c1 : (n : Int) * 32 ≤ 140737488355328 := by omega
  have c2 : (n : Int) ≤ 9223372036854775807 := by omega
  have hz : ∀ X q k, emptySub X k q n true = none := fun X q k => by
    obtain ⟨m, rfl⟩ : ∃ m, n = m + 1 := ⟨n - 1, by omega⟩
    rfl
  have hr : (sq (List.replicate n (.agg (.cons (.sl true () 1 .nil) (.cons (.val (.bool false)) .nil)))) : D) = dRms true (List.replicate n ⟨[], false⟩) := by simp [dRms, dRm]
  have hm : (dRms true (List.replicate n ⟨[], false⟩)).mid 0 n = dRms true (List.replicate n ⟨[], false⟩) := by
    have := dRms_mid_all true (List.replicate n ⟨[], false⟩)
    simpa using this
  refine Meets.of_vs tabOk Try.func23 (body := ?_) ?_ (by kernel_rfl) Try.ntmps23 (rs := [.tmp 2, .tmp 3]) (by kernel_rfl) rfl (by simp [AV.len]) (by simp only [envOf]; exact rfl) ?_
  rotate_left
  · rfl
  intro w0 I0 F0 hF
  repeat first
    | refine VS.seq ?_
    | refine VS.skip ?_
    | (refine VS.keepAt 0 [0] ?_; generalize hK : VS _ _ _ = KK; (try simp); (try subst hK); refine VS.region tabOk (id := 0) [] (by kernel_rfl) ?_; generalize hK : VS _ _ _ = KK; simp (maxSteps := 1000000) [hF, h1i, h2i, c1, c2, hz, hr, hm]; (try subst hK); try (refine VS.keep [0] ?_; generalize hK : VS _ _ _ = KK; simp; (try subst hK)))
    | (refine VS.keepAt 1 [0] ?_; generalize hK : VS _ _ _ = KK; (try simp); (try subst hK); refine VS.region tabOk (id := 1) [(2, 6)] (by kernel_rfl) ?_; generalize hK : VS _ _ _ = KK; simp (maxSteps := 1000000) [hF, h1i, h2i, c1, c2, hz, hr, hm]; (try subst hK); try (refine VS.keep [0, 9] ?_; generalize hK : VS _ _ _ = KK; simp; (try subst hK)))
    | (refine VS.keepAt 3 [0] ?_; generalize hK : VS _ _ _ = KK; (try simp); (try subst hK); refine VS.region tabOk (id := 3) [] (by kernel_rfl) ?_; generalize hK : VS _ _ _ = KK; simp (maxSteps := 1000000) [hF, h1i, h2i, c1, c2, hz, hr, hm]; (try subst hK); try (refine VS.keep [2, 3] ?_; generalize hK : VS _ _ _ = KK; simp; (try subst hK)))
    | (refine VS.cond ?_; generalize hK1 : VS _ _ _ = KK1; generalize hK2 : VS _ _ _ = KK2; simp (maxSteps := 1000000) [hF, h1i, h2i, c1, c2, hz, hr, hm]; (try subst hK1); (try subst hK2))
  try refine VS.ret ?_
  repeat first | refine blockN_ret ?_ | refine loopN_ret ?_
  refine endK.of [2, 3] [1] [] (by simp [hF]) (by simp [covers, mpre]) ?_
  simp [hF, retK, dH, newH, dTgs, sq]
end Go.Proofs.Ytkkbcpcihadkhaa

/- Items are set and pushed; lists freeze. -/
namespace Go.Proofs.Ytkkbcpcihadkhaa
set_option linter.all false
open Go.Vc Go.Proofs
set_option linter.unusedSimpArgs false
set_option linter.unusedVariables false
set_option maxRecDepth 100000
set_option maxHeartbeats 4000000
attribute [local irreducible] CallW EqK

theorem ask_ok {h : Hs} {who : Int} {l : List Int} (hz : askOf h who l = 0) : isR h who = true ∧ (∀ x ∈ l, isT h x = true) ∧ overB h who = false ∧ ∀ x ∈ l, seesB h who x = true := by
  unfold askOf at hz
  split at hz
  · cases hz
  · rename_i h1
    split at hz
    · cases hz
    · rename_i h2
      split at hz
      · cases hz
      · rename_i h3
        simp only [Bool.not_eq_false, Bool.and_eq_true, List.all_eq_true] at h1 h3
        exact ⟨h1.1, h1.2, by simpa using h2, h3⟩

/- (*cabochon/isolate.House).Set -/
theorem set_ok (h : Hs) (hok : Hok h) (who x i z : Int) : Meets Try.prog 36 [dH h] (.cons (.ptr 0 [.d]) (.cons (avInt who) (.cons (avInt x) (.cons (avInt i) (.cons (avInt z) .nil)))))
    fun av X κ => av = avInt (setOf h who x i z).2 ∧ X = [dH (setOf h who x i z).1] ∧ κ = [(0, [.d])] := by
  refine Meets.of_vs tabOk Try.func36 (body := ?_) ?_ (by kernel_rfl) Try.ntmps36 (rs := [.tmp 10]) (by kernel_rfl) rfl (by simp [AV.len]) (by simp only [envOf]; exact rfl) ?_
  rotate_left
  · rfl
  intro w0 I0 F0 hF
  repeat first
    | refine VS.seq ?_
    | (refine VS.keepAt 0 [0, 1, 2, 3, 4] ?_; generalize hK : VS _ _ _ = KK; (try simp); (try subst hK); refine VS.region tabOk (id := 0) [] (by kernel_rfl) ?_; generalize hK : VS _ _ _ = KK; simp (maxSteps := 1000000) [hF]; (try subst hK); try (refine VS.keep [0, 1, 2, 3, 4] ?_; generalize hK : VS _ _ _ = KK; simp; (try subst hK)))
    | (refine VS.keepAt 1 [0, 1, 2, 3, 4] ?_; generalize hK : VS _ _ _ = KK; (try simp); (try subst hK); refine VS.region tabOk (id := 1) [] (by kernel_rfl) ?_; generalize hK : VS _ _ _ = KK; simp (maxSteps := 1000000) [hF]; (try subst hK); try (refine VS.keep [0, 1, 2, 3, 4, 16] ?_; generalize hK : VS _ _ _ = KK; simp; (try subst hK)))
  by_cases hi : indexOf h x i = 0
  · refine (index_c h x i).call [(0, [])] (by simp) (by simp (maxSteps := 1000000) [hF, hi, dH]) (by simp (maxSteps := 1000000) [hF, hi, dH]) (by simp (maxSteps := 1000000) [hF, hi, dH]) (by simp) ?_
    rintro av X κ ⟨rfl, rfl, rfl⟩
    generalize hK : VS _ _ _ = KK; simp (maxSteps := 1000000) [hF, hi, dH]; (try subst hK)
    repeat first
      | refine VS.seq ?_
      | refine VS.skip ?_
      | (refine VS.keepAt 3 [0, 1, 2, 3, 4] ?_; generalize hK : VS _ _ _ = KK; (try simp); (try subst hK); refine VS.region tabOk (id := 3) [] (by kernel_rfl) ?_; generalize hK : VS _ _ _ = KK; simp (maxSteps := 1000000) [hF, hi]; (try subst hK); try (refine VS.keep [0, 2, 3, 4, 11] ?_; generalize hK : VS _ _ _ = KK; simp; (try subst hK)))
      | (refine VS.cond ?_; generalize hK1 : VS _ _ _ = KK1; generalize hK2 : VS _ _ _ = KK2; simp (maxSteps := 1000000) [hF, hi]; (try subst hK1); (try subst hK2))
    by_cases hz : askOf h who [x, z] = 0
    · have ht : isT h x = true := (ask_ok hz).2.1 x (by simp)
      obtain ⟨k, rfl, hk⟩ := isT_nat ht
      have hn := dTgs_nth (o := true) hk
      have hl : 0 ≤ i ∧ i < h.things[k].items.length := by
        simp only [indexOf, ht, gd_at hk, true_and] at hi
        split at hi
        · cases hi
        · omega
      obtain ⟨j, rfl⟩ : ∃ j : Nat, i = j := ⟨i.toNat, by omega⟩
      have hj : j < h.things[k].items.length := by omega
      have hm := dInts_nth hj
      have hs1 := dInts_set h.things[k].items j z
      have hs2 := dTgs_set true h.things k { h.things[k] with items := h.things[k].items.set j z }
      cases hf : h.things[k].frozen with
      | true =>
        rw [hf] at hn
        have hc : setOf h who k j z = (h, 13) := by simp [setOf, hi, hz, hk, hf]
        refine (ask_c2 h who true k z).call [(0, []), (1, [])] (by simp) (by simp (maxSteps := 1000000) [hF, hz, dH]) (by simp (maxSteps := 1000000) [hF, hz, dH]) (by simp (maxSteps := 1000000) [hF, hz, dH]) (by simp) ?_
        rintro av X κ ⟨rfl, rfl, rfl⟩
        generalize hK : VS _ _ _ = KK; simp (maxSteps := 1000000) [hF, hz, dH]; (try subst hK)
        repeat first
          | refine VS.seq ?_
          | refine VS.skip ?_
          | (refine VS.keepAt 4 [0, 2, 3, 4, 11] ?_; generalize hK : VS _ _ _ = KK; (try simp); (try subst hK); refine VS.region tabOk (id := 4) [] (by kernel_rfl) ?_; generalize hK : VS _ _ _ = KK; simp (maxSteps := 1000000) [hF, hz, dH, hn, hk]; (try subst hK); try (refine VS.keep [0, 2, 3, 4, 11, 24] ?_; generalize hK : VS _ _ _ = KK; simp; (try subst hK)))
          | (refine VS.keepAt 6 [0, 2, 3, 4] ?_; generalize hK : VS _ _ _ = KK; (try simp); (try subst hK); refine VS.region tabOk (id := 6) [] (by kernel_rfl) ?_; generalize hK : VS _ _ _ = KK; simp (maxSteps := 1000000) [hF, hz, dH, hn, hk]; (try subst hK); try (refine VS.keep [0, 2, 3, 4, 33] ?_; generalize hK : VS _ _ _ = KK; simp; (try subst hK)))
          | (refine VS.keepAt 7 [] ?_; generalize hK : VS _ _ _ = KK; (try simp); (try subst hK); refine VS.region tabOk (id := 7) [] (by kernel_rfl) ?_; generalize hK : VS _ _ _ = KK; simp (maxSteps := 1000000) [hF, hz, dH, hn, hk]; (try subst hK); try (refine VS.keep [10] ?_; generalize hK : VS _ _ _ = KK; simp; (try subst hK)))
          | (refine VS.cond ?_; generalize hK1 : VS _ _ _ = KK1; generalize hK2 : VS _ _ _ = KK2; simp (maxSteps := 1000000) [hF, hz, dH, hn, hk]; (try subst hK1); (try subst hK2))
        refine VS.widen [(0, [.d])] (by simp [covers, mpre]) ?_
        try refine VS.ret ?_
        repeat first | refine blockN_ret ?_ | refine loopN_ret ?_
        refine endK.of [10] [0] [(0, [.d])] (by simp [hF]) (by simp [covers, mpre]) ?_
        simp [hF, retK, dH, hc]
      | false =>
        rw [hf] at hn
        have hc : setOf h who k j z = ({ h with things := h.things.set k { h.things[k] with items := h.things[k].items.set j z } }, 0) := by simp [setOf, hi, hz, hk, hf, setTg]
        simp only [hf] at hs2 hc
        refine (ask_c2 h who true k z).call [(0, []), (1, [])] (by simp) (by simp (maxSteps := 1000000) [hF, hz, dH]) (by simp (maxSteps := 1000000) [hF, hz, dH]) (by simp (maxSteps := 1000000) [hF, hz, dH]) (by simp) ?_
        rintro av X κ ⟨rfl, rfl, rfl⟩
        generalize hK : VS _ _ _ = KK; simp (maxSteps := 1000000) [hF, hz, dH]; (try subst hK)
        repeat first
          | refine VS.seq ?_
          | refine VS.skip ?_
          | (refine VS.keepAt 4 [0, 2, 3, 4, 11] ?_; generalize hK : VS _ _ _ = KK; (try simp); (try subst hK); refine VS.region tabOk (id := 4) [] (by kernel_rfl) ?_; generalize hK : VS _ _ _ = KK; simp (maxSteps := 1000000) [hF, hz, dH, hn, hk, hm, hj, hs1, hs2]; (try subst hK); try (refine VS.keep [0, 2, 3, 4, 11, 24] ?_; generalize hK : VS _ _ _ = KK; simp; (try subst hK)))
          | (refine VS.keepAt 6 [0, 2, 3, 4] ?_; generalize hK : VS _ _ _ = KK; (try simp); (try subst hK); refine VS.region tabOk (id := 6) [] (by kernel_rfl) ?_; generalize hK : VS _ _ _ = KK; simp (maxSteps := 1000000) [hF, hz, dH, hn, hk, hm, hj, hs1, hs2]; (try subst hK); try (refine VS.keep [0, 2, 3, 4, 33] ?_; generalize hK : VS _ _ _ = KK; simp; (try subst hK)))
          | (refine VS.keepAt 8 [0, 2, 3, 4] ?_; generalize hK : VS _ _ _ = KK; (try simp); (try subst hK); refine VS.region tabOk (id := 8) [] (by kernel_rfl) ?_; generalize hK : VS _ _ _ = KK; simp (maxSteps := 1000000) [hF, hz, dH, hn, hk, hm, hj, hs1, hs2]; (try subst hK); try (refine VS.keep [] ?_; generalize hK : VS _ _ _ = KK; simp; (try subst hK)))
          | (refine VS.keepAt 9 [] ?_; generalize hK : VS _ _ _ = KK; (try simp); (try subst hK); refine VS.region tabOk (id := 9) [] (by kernel_rfl) ?_; generalize hK : VS _ _ _ = KK; simp (maxSteps := 1000000) [hF, hz, dH, hn, hk, hm, hj, hs1, hs2]; (try subst hK); try (refine VS.keep [10] ?_; generalize hK : VS _ _ _ = KK; simp; (try subst hK)))
          | (refine VS.cond ?_; generalize hK1 : VS _ _ _ = KK1; generalize hK2 : VS _ _ _ = KK2; simp (maxSteps := 1000000) [hF, hz, dH, hn, hk, hm, hj, hs1, hs2]; (try subst hK1); (try subst hK2))
        refine VS.widen [(0, [.d])] (by simp [covers, mpre]) ?_
        try refine VS.ret ?_
        repeat first | refine blockN_ret ?_ | refine loopN_ret ?_
        refine endK.of [10] [0] [(0, [.d])] (by simp [hF]) (by simp [covers, mpre]) ?_
        simp [hF, retK, dH, hc]
    · have hc : setOf h who x i z = (h, askOf h who [x, z]) := by simp [setOf, hi, hz]
      refine (ask_c2 h who true x z).call [(0, []), (1, [])] (by simp) (by simp (maxSteps := 1000000) [hF, hz, dH]) (by simp (maxSteps := 1000000) [hF, hz, dH]) (by simp (maxSteps := 1000000) [hF, hz, dH]) (by simp) ?_
      rintro av X κ ⟨rfl, rfl, rfl⟩
      generalize hK : VS _ _ _ = KK; simp (maxSteps := 1000000) [hF, hz, dH]; (try subst hK)
      repeat first
        | refine VS.seq ?_
        | (refine VS.keepAt 4 [0, 2, 3, 4, 11] ?_; generalize hK : VS _ _ _ = KK; (try simp); (try subst hK); refine VS.region tabOk (id := 4) [] (by kernel_rfl) ?_; generalize hK : VS _ _ _ = KK; simp (maxSteps := 1000000) [hF, hz]; (try subst hK); try (refine VS.keep [0, 2, 3, 4, 11, 24] ?_; generalize hK : VS _ _ _ = KK; simp; (try subst hK)))
        | (refine VS.keepAt 5 [11] ?_; generalize hK : VS _ _ _ = KK; (try simp); (try subst hK); refine VS.region tabOk (id := 5) [] (by kernel_rfl) ?_; generalize hK : VS _ _ _ = KK; simp (maxSteps := 1000000) [hF, hz]; (try subst hK); try (refine VS.keep [10] ?_; generalize hK : VS _ _ _ = KK; simp; (try subst hK)))
        | (refine VS.cond ?_; generalize hK1 : VS _ _ _ = KK1; generalize hK2 : VS _ _ _ = KK2; simp (maxSteps := 1000000) [hF, hz]; (try subst hK1); (try subst hK2))
      refine VS.widen [(0, [.d])] (by simp [covers, mpre]) ?_
      try refine VS.ret ?_
      repeat first | refine blockN_ret ?_ | refine loopN_ret ?_
      refine endK.of [10] [0] [(0, [.d])] (by simp [hF]) (by simp [covers, mpre]) ?_
      simp [hF, retK, dH, hc]
  · have hc : setOf h who x i z = (h, 1) := by simp [setOf, hi]
    refine (index_c h x i).call [(0, [])] (by simp) (by simp (maxSteps := 1000000) [hF, hi, dH]) (by simp (maxSteps := 1000000) [hF, hi, dH]) (by simp (maxSteps := 1000000) [hF, hi, dH]) (by simp) ?_
    rintro av X κ ⟨rfl, rfl, rfl⟩
    generalize hK : VS _ _ _ = KK; simp (maxSteps := 1000000) [hF, hi, dH]; (try subst hK)
    repeat first
      | refine VS.seq ?_
      | (refine VS.keepAt 2 [] ?_; generalize hK : VS _ _ _ = KK; (try simp); (try subst hK); refine VS.region tabOk (id := 2) [] (by kernel_rfl) ?_; generalize hK : VS _ _ _ = KK; simp (maxSteps := 1000000) [hF, hi]; (try subst hK); try (refine VS.keep [10] ?_; generalize hK : VS _ _ _ = KK; simp; (try subst hK)))
      | (refine VS.cond ?_; generalize hK1 : VS _ _ _ = KK1; generalize hK2 : VS _ _ _ = KK2; simp (maxSteps := 1000000) [hF, hi]; (try subst hK1); (try subst hK2))
    refine VS.widen [(0, [.d])] (by simp [covers, mpre]) ?_
    try refine VS.ret ?_
    repeat first | refine blockN_ret ?_ | refine loopN_ret ?_
    refine endK.of [10] [0] [(0, [.d])] (by simp [hF]) (by simp [covers, mpre]) ?_
    simp [hF, retK, dH, hc]
end Go.Proofs.Ytkkbcpcihadkhaa
