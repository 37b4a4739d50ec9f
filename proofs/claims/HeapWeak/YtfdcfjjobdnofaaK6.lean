/- The library's sort of numbers, in place: the kit's contract, carried over. -/
import Derived.Test.YtfdcfjjobdnofaaK4
import Derived.Test.YtfdcfjjobdnofaaK5
import Derived.Shelf.Sort.Plain
import Derived.Test.YtfdcfjjobdnofaaK3
import Derived.IntWalk
import Derived.Sort.EveryDepth
namespace Go.Vc
set_option linter.all false
open Go.Proofs Go.Shelf Go.Sort Go.RowKit
open T (hdr blk)

def ints (l : List Int) : D := sq (l.map fun n => .val (.int .i64 n))
def ints0 : List Int → G
  | [] => .nil
  | n :: l => .cons (.val (.int .i64 n)) (ints0 l)
theorem ints0_erase : ∀ l : List Int, (ints0 l).erase = ints l
  | [] => rfl
  | n :: l => by simp only [ints0, T.erase, ints0_erase l]; rfl
theorem ints0_of : ∀ {s : G} {l : List Int}, s.erase = ints l → s = ints0 l
  | s, [], h => erase_nil h
  | s, n :: l, h => by
    obtain ⟨a, t, rfl, h1, h2⟩ := erase_cons h
    rw [erase_val h1, ints0_of h2]; rfl
theorem ints0_cells : ∀ l : List Int, (ints0 l).cells = l.map (Value.int .i64)
  | [] => rfl
  | n :: l => by simp [ints0, T.cells, ints0_cells l]
theorem ints0_len : ∀ l : List Int, (ints0 l).len = l.length
  | [] => rfl
  | n :: l => by simp [ints0, T.len, ints0_len l]
theorem ints0_holds (h : Array Obj) (I : Nat → Prop) : ∀ l : List Int, T.Holds h I (ints0 l)
  | [] => trivial
  | n :: l => ⟨rfl, ints0_holds h I l⟩
theorem ints0_uni : ∀ l : List Int, (ints0 l).uni 1
  | [] => trivial
  | n :: l => ⟨rfl, ints0_uni l⟩
theorem ints0_nth : ∀ (l : List Int) (k : Nat), k < l.length → ∃ n, (ints0 l).nth k = .val (.int .i64 n)
  | [], _, h => by simp at h
  | n :: l, 0, _ => ⟨n, rfl⟩
  | n :: l, k + 1, h => ints0_nth l k (by simpa using h)
theorem ints0_owned : ∀ l : List Int, (ints0 l).owned = []
  | [] => rfl
  | n :: l => by simp [ints0, T.owned, ints0_owned l]

theorem Meets.sortInts {P : Program} {ρ : Ren} (Ly : Lays.n189 P ρ) (hb : HasBody P (ρ.f 189)) (l : List Int) (ex : Bool) (h0 : 0 < l.length) (hl : l.length ≤ 1000000000) :
    Meets P (ρ.f 189) [.sl true () 1 (ints l)] (.cons (.sub 0 [] 0 l.length ex) .nil) fun av X κ => av = .tup .nil ∧ X = [.sl true () 1 (ints (l.mergeSort fun x y => decide (x ≤ y)))] ∧ κ = [(0, [.i 0])] := by
  refine ⟨hb, fun w I F0 vs hY hH hnd hap hlt hilt hvs => ?_⟩
  obtain ⟨g0, rfl⟩ : ∃ g0, F0 = [g0] := by
    rcases F0 with _ | ⟨g, _ | ⟨_, _⟩⟩
    · simp at hY
    · exact ⟨g, rfl⟩
    · simp at hY
  obtain ⟨a, s, rfl, hs⟩ : ∃ a s, g0 = .sl true a 1 s ∧ s.erase = ints l := by
    simp only [List.map_cons, List.map_nil, List.cons.injEq, and_true] at hY
    cases g0 <;> simp only [T.erase, reduceCtorEq, T.sl.injEq] at hY
    obtain ⟨rfl, _, rfl, h⟩ := hY
    exact ⟨_, _, rfl, h⟩
  obtain rfl := ints0_of hs
  have hg := hH _ (List.mem_singleton.2 rfl)
  obtain ⟨q1, q2, q3, q4⟩ := id hg
  have hlen := ints0_len l
  obtain ⟨x, c, rfl, hsp, row, e, hrow, hsz, hcell⟩ : ∃ (x : Addr) (c : Nat), a = .slice (some x) l.length (c + 1) ∧ x.spot = none ∧ ∃ row e, w.heap[x.block]? = some (.cells row e (0, 0)) ∧ x.off + (c + 1) ≤ row.size ∧ ∀ j v, (ints0 l).cells[j]? = some v → row[x.off + j]? = some v := by
    split at q4
    · omega
    · omega
    · rename_i x n c
      obtain ⟨h1, h2, h3, h4, h5, row, e, fr, h6, h7, h8, h9⟩ := q4
      obtain rfl := h7 rfl
      rw [hlen] at h2
      subst h2
      exact ⟨x, c, rfl, h1, row, e, h6, by omega, h9⟩
    · exact q4.elim
  obtain ⟨v, vs', rfl, hv, hvn⟩ := hvs
  obtain rfl : vs' = [] := hvn
  obtain ⟨own', a', z', len', v', hh, hvv, hsub⟩ := hv
  simp only [hdrF, List.getElem?_cons_zero, Option.bind_some, T.at_, hdr, Option.some.injEq, Prod.mk.injEq] at hh
  obtain ⟨rfl, rfl, rfl, rfl⟩ := hh
  simp only [List.cons.injEq, and_true] at hvv
  subst hvv
  obtain ⟨A, cc, rfl, k1, k2, k3, k4, k5⟩ := hsub
  obtain ⟨y, rfl, y1, y2, y3, y4, y5⟩ := k5
  have hy5 := y5 (by omega)
  obtain ⟨yb, yo, ys⟩ := y
  simp only at y1 y2 hy5
  subst y1; subst y2
  obtain rfl : yo = x.off := by omega
  have hbs : x.block < w.heap.size := (Array.getElem?_eq_some_iff.1 hrow).1
  have hcl : ∀ j, (hj : j < l.length) → row[x.off + j]? = some (Value.int .i64 l[j]) := fun j hj => hcell j _ (by rw [ints0_cells]; simp [hj])
  obtain ⟨M, hM⟩ : ∃ M, M = l.mergeSort fun x y => decide (x ≤ y) := ⟨_, rfl⟩
  have hMl : M.length = l.length := by rw [hM, List.length_mergeSort]
  have hHk : Go.Sort.Holds (Value.int .i64) w x.block x.off l.toArray := fun j hj => by
    have hj' : j < l.length := by simpa using hj
    have h1 := hcl j hj'
    have h2 : l.toArray[j]! = l[j] := by rw [getElem!_pos _ j hj]; simp
    refine ⟨?_, ?_⟩
    · rw [h2]
      simp [World.cell?, hrow, h1]
    · simp [World.frozen?, hrow]
  refine (Any.slices_Sort_int Ly x.block x.off cc l w hHk hbs (by omega)).mono ?_
  rintro e' w' ⟨rfl, n, os, rfl⟩
  rw [← hM]
  have hheap : (grow (putRow (Value.int .i64) (Go.Sort.ahead w n) x.block x.off M.toArray) os).heap = w.heap.modify x.block (onCells (putCells (Value.int .i64) x.off M.toArray)) ++ os := rfl
  have hsz2 : w.heap.size ≤ (grow (putRow (Value.int .i64) (Go.Sort.ahead w n) x.block x.off M.toArray) os).heap.size := by rw [hheap]; simp
  have hat : (grow (putRow (Value.int .i64) (Go.Sort.ahead w n) x.block x.off M.toArray) os).heap[x.block]? = some (.cells (putCells (Value.int .i64) x.off M.toArray row) e (0, 0)) := by
    rw [hheap, Array.getElem?_append_left (by simpa using hbs), Array.getElem?_modify, if_pos rfl, hrow]; rfl
  have hot : ∀ b, b < w.heap.size → b ≠ x.block → (grow (putRow (Value.int .i64) (Go.Sort.ahead w n) x.block x.off M.toArray) os).heap[b]? = w.heap[b]? := fun b hb hne => by
    rw [hheap, Array.getElem?_append_left (by simpa using hb), Array.getElem?_modify, if_neg (Ne.symm hne)]
  have hown : own [T.sl true (Value.slice (some x) l.length (c + 1)) 1 (ints0 l)] = [x.block] := by simp [own, T.owned, ints0_owned, T.blk]
  have hown2 : own [T.sl true (Value.slice (some x) l.length (c + 1)) 1 (ints0 M)] = [x.block] := by simp [own, T.owned, ints0_owned, T.blk]
  rw [hown] at hnd hap hlt
  have hIx : ∀ b, I b → (grow (putRow (Value.int .i64) (Go.Sort.ahead w n) x.block x.off M.toArray) os).heap[b]? = w.heap[b]? := fun b hb => hot b (hilt b hb) fun e => hap x.block (by simp) (e ▸ hb)
  refine ⟨.tuple #[], .tup .nil, _, _, I, [.sl true (.slice (some x) l.length (c + 1)) 1 (ints0 M)], rfl, ⟨rfl, rfl, rfl⟩, ⟨?_, ?_, ?_, ?_, ?_, ?_, rfl, rfl, rfl, hsz2, ?_, ?_, fun _ h => h, fun b h => .inl h, ?_⟩, ?_⟩
  · simp [T.erase, ints0_erase]
  · intro g hg'
    rw [List.mem_singleton] at hg'
    subst hg'
    refine ⟨ints0_holds _ _ _, ints0_uni _, (fun h => by cases h), ?_⟩
    have hMn : (ints0 M).len = l.length := by rw [ints0_len, hMl]
    refine ⟨hsp, hMn.symm, by omega, by omega, (fun h => by cases h), _, e, (0, 0), hat, fun _ => rfl, ?_, ?_⟩
    · simp only [putCells, Array.size_mapIdx]; omega
    · intro j v hj
      rw [ints0_cells, List.getElem?_map] at hj
      by_cases hjl : j < M.length
      · rw [List.getElem?_eq_getElem hjl, Option.map_some, Option.some.injEq] at hj
        have h1 := hcl j (by omega)
        simp only [putCells, Array.getElem?_mapIdx, h1, Option.map_some, Option.some.injEq]
        rw [if_pos ⟨by omega, by simp; omega⟩, ← hj, show x.off + j - x.off = j by omega, getElem!_pos _ j (by simpa using hjl)]
        simp
      · rw [List.getElem?_eq_none (by omega)] at hj; cases hj
  · rw [hown2]; exact hnd
  · rw [hown2]; exact hap
  · rw [hown2]; exact fun b hb => Nat.lt_of_lt_of_le (hlt b hb) hsz2
  · exact fun b hb => Nat.lt_of_lt_of_le (hilt b hb) hsz2
  · intro b hb hbn
    refine hot b hb fun e => hbn ?_
    show b ∈ own [T.sl true (Value.slice (some x) l.length (c + 1)) 1 (ints0 l)]
    rw [hown, e]; simp
  · rw [hown2]; intro b hb _
    show b ∈ own [T.sl true (Value.slice (some x) l.length (c + 1)) 1 (ints0 l)]
    rw [hown]; exact hb
  · intro k g0 hk
    cases k with
    | succ k => simp at hk
    | zero =>
      simp only [List.getElem?_cons_zero, Option.some.injEq] at hk
      subst hk
      refine ⟨_, rfl, rfl, fun q hq => ?_, fun q hq => ?_, fun q v hq hd => ?_⟩
      · cases q with
        | nil => rfl
        | cons st q =>
          cases st with
          | f i => rfl
          | d => rfl
          | i k =>
            cases q with
            | cons st' q => simp [dead, mpre] at hq
            | nil =>
              simp only [T.loc, ints0_len, hMl]
      · cases q with
        | nil => simp only [T.at_, hdr, ints0_len, hMl]
        | cons st q =>
          cases st with
          | f i => rfl
          | d => rfl
          | i k => simp [dead, mpre] at hq
      · cases q with
        | nil => simp [T.at_] at hq
        | cons st q =>
          cases st with
          | f i => simp [T.at_] at hq
          | d => simp [T.at_] at hq
          | i k => simp [dead, mpre] at hd
  · exact ⟨[], rfl, rfl⟩
end Go.Vc

/- A heap, plainly: objects, what is reached. -/
namespace Go.Proofs.Ytfdcfjjobdnofaa
set_option linter.all false
open Go.Vc Go.Proofs

structure Ob where
  handle : Int
  age : Int
  slots : List Int
structure Hp where
  ry : Int
  ro : Int
  young : List Ob
  old : List Ob
  next : Int
  roots : List Int
  weak : List (Int × Int)
  fins : List (Int × Int)
  queue : List Int
def usedN (l : List Ob) : Nat := (l.map fun o => o.slots.length).sum
def obs (h : Hp) : List Ob := h.young ++ h.old
def inL (l : List Ob) (x : Int) : Bool := l.any fun o => decide (o.handle = x)
def there (h : Hp) (x : Int) : Bool := inL h.young x || inL h.old x
/-- The slots of the first object with a handle. -/
def slotsL (l : List Ob) (x : Int) : List Int := match l.find? (fun o => decide (o.handle = x)) with
  | some o => o.slots
  | none => []
def slotsOf (h : Hp) (x : Int) : List Int := slotsL (obs h) x

/-- What is reached from some numbers, but for what is left out. -/
inductive RS (sl : Int → List Int) (skip : Int → Bool) (from_ : List Int) : Int → Prop where
  | base {y : Int} (h : y ∈ from_) (hs : skip y = false) : RS sl skip from_ y
  | step {x y : Int} (h : RS sl skip from_ x) (hy : y ∈ sl x) (hs : skip y = false) : RS sl skip from_ y
theorem RS.mono {sl : Int → List Int} {skip : Int → Bool} {l m : List Int} (hl : ∀ y ∈ l, skip y = false → RS sl skip m y) {y : Int} (h : RS sl skip l y) : RS sl skip m y := by
  induction h with
  | base h hs => exact hl _ h hs
  | step _ hy hs ih => exact .step ih hy hs
theorem RS.not_skip {sl : Int → List Int} {skip : Int → Bool} {l : List Int} {y : Int} (h : RS sl skip l y) : skip y = false := by
  cases h <;> assumption
theorem RS.closed {sl : Int → List Int} {skip : Int → Bool} {l : List Int} {Q : Int → Prop} (hb : ∀ y ∈ l, skip y = false → Q y) (hc : ∀ x, Q x → ∀ y ∈ sl x, skip y = false → Q y) {y : Int} (h : RS sl skip l y) : Q y := by
  induction h with
  | base h hs => exact hb _ h hs
  | step _ hy hs ih => exact hc _ ih _ hy hs

/-- The document's walk: a queue. -/
def bfs (sl : Int → List Int) (skip : Int → Bool) : Nat → List Int → List Int → List Int
  | 0, _, out => out
  | _ + 1, [], out => out
  | n + 1, x :: todo, out => if skip x = true ∨ x ∈ out then bfs sl skip n todo out else bfs sl skip n (todo ++ sl x) (out ++ [x])
/-- What is left to do. -/
def lftO (os : List Ob) (out : List Int) : Nat := (os.map fun o => if o.handle ∈ out then 0 else o.slots.length).sum
def Dist (os : List Ob) : Prop := (os.map (·.handle)).Nodup
theorem slotsL_cons (o : Ob) (l : List Ob) (x : Int) : slotsL (o :: l) x = if o.handle = x then o.slots else slotsL l x := by
  rw [slotsL, List.find?_cons]
  by_cases h : o.handle = x <;> simp [h, slotsL]
theorem inL_cons (o : Ob) (l : List Ob) (x : Int) : inL (o :: l) x = (decide (o.handle = x) || inL l x) := by simp [inL]
theorem inL_mem {l : List Ob} {x : Int} : inL l x = true ↔ x ∈ l.map (·.handle) := by simp [inL]
theorem lft_new {os : List Ob} (hd : Dist os) {out : List Int} {x : Int} (hx : inL os x = true) (hn : ¬ x ∈ out) : lftO os (out ++ [x]) + (slotsL os x).length = lftO os out := by
  induction os with
  | nil => simp [inL] at hx
  | cons o l ih =>
    rw [Dist, List.map_cons, List.nodup_cons] at hd
    rw [slotsL_cons]
    simp only [lftO, List.map_cons, List.sum_cons]
    by_cases e : o.handle = x
    · have hrest : (l.map fun o => if o.handle ∈ out ++ [x] then 0 else o.slots.length).sum = (l.map fun o => if o.handle ∈ out then 0 else o.slots.length).sum := by
        congr 1
        refine List.map_congr_left fun p hp => ?_
        have hne : p.handle ≠ x := fun h => hd.1 (by rw [e, ← h]; exact List.mem_map_of_mem hp)
        simp [hne]
      rw [if_pos e, hrest, if_pos (by simp [e]), if_neg (by rw [e]; exact hn)]
      omega
    · have hx' : inL l x = true := by rw [inL_cons] at hx; simpa [e] using hx
      have := ih hd.2 hx'
      simp only [lftO] at this
      rw [if_neg e]
      have h1 : (o.handle ∈ out ++ [x]) = (o.handle ∈ out) := by simp [e]
      simp only [h1]; omega
theorem bfs_spec {os : List Ob} (hd : Dist os) {skip : Int → Bool} {V : Int → Prop} (hV : ∀ x, V x → skip x = false → inL os x = true) (hS : ∀ x, inL os x = true → ∀ y ∈ slotsL os x, V y) :
    ∀ (n : Nat) (todo out : List Int), todo.length + lftO os out ≤ n → (∀ x ∈ todo, V x) → (∀ x ∈ out, inL os x = true) → (∀ x ∈ out, ∀ y ∈ slotsL os x, skip y = false → y ∈ out ∨ y ∈ todo) →
      (∀ x ∈ out, x ∈ bfs (slotsL os) skip n todo out) ∧ (∀ x ∈ todo, skip x = false → x ∈ bfs (slotsL os) skip n todo out) ∧ (∀ x ∈ bfs (slotsL os) skip n todo out, inL os x = true) ∧
      (∀ x ∈ bfs (slotsL os) skip n todo out, ∀ y ∈ slotsL os x, skip y = false → y ∈ bfs (slotsL os) skip n todo out) ∧ ∀ x ∈ bfs (slotsL os) skip n todo out, x ∈ out ∨ RS (slotsL os) skip todo x
  | 0, todo, out, hn, hv, ho, hc => by
    obtain rfl : todo = [] := List.eq_nil_of_length_eq_zero (by omega)
    rw [bfs]
    exact ⟨fun _ h => h, by simp, ho, fun x hx y hy hs => by simpa using hc x hx y hy hs, fun x hx => .inl hx⟩
  | n + 1, [], out, hn, hv, ho, hc => by
    rw [bfs]
    exact ⟨fun _ h => h, by simp, ho, fun x hx y hy hs => by simpa using hc x hx y hy hs, fun x hx => .inl hx⟩
  | n + 1, x :: todo, out, hn, hv, ho, hc => by
    rw [bfs]
    by_cases hx : skip x = true ∨ x ∈ out
    · rw [if_pos hx]
      obtain ⟨h1, h2, h3, h4, h5⟩ := bfs_spec hd hV hS n todo out (by simp only [List.length_cons] at hn; omega) (fun y hy => hv y (by simp [hy])) ho (fun y hy z hz hs => by
        rcases hc y hy z hz hs with h | h
        · exact .inl h
        · rcases List.mem_cons.1 h with rfl | h
          · rcases hx with hx | hx
            · rw [hx] at hs; cases hs
            · exact .inl hx
          · exact .inr h)
      refine ⟨h1, fun y hy hs => ?_, h3, h4, fun y hy => (h5 y hy).imp id fun h => h.mono fun z hz hzs => .base (by simp [hz]) hzs⟩
      rcases List.mem_cons.1 hy with rfl | hy
      · rcases hx with hx | hx
        · rw [hx] at hs; cases hs
        · exact h1 _ hx
      · exact h2 y hy hs
    · rw [if_neg hx]
      have hsx : skip x = false := by cases e : skip x with
        | true => exact absurd (.inl e) hx
        | false => rfl
      have hxo : ¬ x ∈ out := fun h => hx (.inr h)
      have hin := hV x (hv x (by simp)) hsx
      have hl := lft_new hd hin hxo
      obtain ⟨h1, h2, h3, h4, h5⟩ := bfs_spec hd hV hS n (todo ++ slotsL os x) (out ++ [x]) (by simp only [List.length_cons, List.length_append] at hn ⊢; omega)
        (fun y hy => by
          rcases List.mem_append.1 hy with h | h
          · exact hv y (by simp [h])
          · exact hS x hin y h)
        (fun y hy => by
          rcases List.mem_append.1 hy with h | h
          · exact ho y h
          · rw [List.mem_singleton.1 h]; exact hin)
        (fun y hy z hz hs => by
          rcases List.mem_append.1 hy with h | h
          · rcases hc y h z hz hs with h | h
            · exact .inl (by simp [h])
            · rcases List.mem_cons.1 h with rfl | h
              · exact .inl (by simp)
              · exact .inr (by simp [h])
          · rw [List.mem_singleton.1 h] at hz
            exact .inr (by simp [hz]))
      refine ⟨fun y hy => h1 y (by simp [hy]), fun y hy hs => ?_, h3, h4, fun y hy => ?_⟩
      · rcases List.mem_cons.1 hy with rfl | hy
        · exact h1 _ (by simp)
        · exact h2 y (by simp [hy]) hs
      · rcases h5 y hy with h | h
        · rcases List.mem_append.1 h with h | h
          · exact .inl h
          · rw [List.mem_singleton.1 h]; exact .inr (.base (by simp) hsx)
        · refine .inr (h.mono fun z hz hzs => ?_)
          rcases List.mem_append.1 hz with h | h
          · exact .base (by simp [h]) hzs
          · exact .step (.base (by simp) hsx) h hzs
/-- The program's walk: a stack. What is known of what was met and what is left to do. -/
structure Dfs (os : List Ob) (skip : Int → Bool) (S0 from_ S W : List Int) : Prop where
  sub : ∀ x ∈ S0, x ∈ S
  met : ∀ x ∈ from_, skip x = false → x ∈ S ∨ x ∈ W
  clo : ∀ x ∈ S, ∀ y ∈ slotsL os x, skip y = false → y ∈ S ∨ y ∈ W
  only : ∀ x ∈ S, x ∈ S0 ∨ RS (slotsL os) skip from_ x
  todo : ∀ x ∈ W, skip x = false → RS (slotsL os) skip from_ x
theorem Dfs.start {os : List Ob} {skip : Int → Bool} {S0 from_ : List Int} (hc : ∀ x ∈ S0, ∀ y ∈ slotsL os x, skip y = false → y ∈ S0) : Dfs os skip S0 from_ S0 from_ :=
  ⟨fun _ h => h, fun _ h _ => .inr h, fun x hx y hy hs => .inl (hc x hx y hy hs), fun _ h => .inl h, fun _ h hs => .base h hs⟩
theorem Dfs.pass {os : List Ob} {skip : Int → Bool} {S0 from_ S W : List Int} {x : Int} (h : Dfs os skip S0 from_ S (W ++ [x])) (hx : skip x = true ∨ x ∈ S) : Dfs os skip S0 from_ S W := by
  have hw : ∀ y, skip y = false → y ∈ S ∨ y ∈ W ++ [x] → y ∈ S ∨ y ∈ W := fun y hs hy => by
    rcases hy with hy | hy
    · exact .inl hy
    · rcases List.mem_append.1 hy with hy | hy
      · exact .inr hy
      · rw [List.mem_singleton] at hy
        subst hy
        rcases hx with hx | hx
        · rw [hx] at hs; cases hs
        · exact .inl hx
  exact ⟨h.sub, fun y hy hs => hw y hs (h.met y hy hs), fun z hz y hy hs => hw y hs (h.clo z hz y hy hs), h.only, fun y hy => h.todo y (by simp [hy])⟩
theorem Dfs.take {os : List Ob} {skip : Int → Bool} {S0 from_ S W : List Int} {x : Int} (h : Dfs os skip S0 from_ S (W ++ [x])) (hx : skip x = false) : Dfs os skip S0 from_ (S ++ [x]) (W ++ slotsL os x) := by
  have hr := h.todo x (by simp) hx
  have hw : ∀ y, y ∈ S ∨ y ∈ W ++ [x] → y ∈ S ++ [x] ∨ y ∈ W ++ slotsL os x := fun y hy => by
    rcases hy with hy | hy
    · exact .inl (by simp [hy])
    · rcases List.mem_append.1 hy with hy | hy
      · exact .inr (by simp [hy])
      · exact .inl (List.mem_append.2 (.inr hy))
  refine ⟨fun y hy => by simp [h.sub y hy], fun y hy hs => hw y (h.met y hy hs), fun z hz y hy hs => ?_, fun y hy => ?_, fun y hy hs => ?_⟩
  · rcases List.mem_append.1 hz with hz | hz
    · exact hw y (h.clo z hz y hy hs)
    · rw [List.mem_singleton] at hz; subst hz; exact .inr (by simp [hy])
  · rcases List.mem_append.1 hy with hy | hy
    · exact h.only y hy
    · rw [List.mem_singleton] at hy; subst hy; exact .inr hr
  · rcases List.mem_append.1 hy with hy | hy
    · exact h.todo y (by simp [hy]) hs
    · exact .step hr hy hs
theorem Dfs.done {os : List Ob} {skip : Int → Bool} {S0 from_ S : List Int} (h : Dfs os skip S0 from_ S []) (y : Int) : y ∈ S ↔ y ∈ S0 ∨ RS (slotsL os) skip from_ y := by
  refine ⟨h.only y, fun hy => ?_⟩
  rcases hy with hy | hy
  · exact h.sub y hy
  · exact hy.closed (Q := fun y => y ∈ S) (fun y hy hs => by simpa using h.met y hy hs) fun x hx y hy hs => by simpa using h.clo x hx y hy hs

/-! ### What is asked, and done -/
def makeOf (h : Hp) (n : Int) : Hp × Int × Int :=
  if n < 1 ∨ 8 < n then (h, 0, 1) else if h.ry < usedN h.young + n then (h, 0, 9) else ({ h with young := h.young ++ [⟨h.next, 0, List.replicate n.toNat 0⟩], next := h.next + 1 }, h.next, 0)
def slotErr (h : Hp) (x s z : Int) : Int :=
  if x < 0 ∨ s < 0 ∨ 8 ≤ s ∨ z < 0 then 1 else if there h x = true ∧ (slotsOf h x).length ≤ s then 1 else if there h x = false ∨ 0 < z ∧ there h z = false then 3 else 0
def getOf (h : Hp) (x s : Int) : Int × Int := if ¬ slotErr h x s 0 = 0 then (0, slotErr h x s 0) else ((slotsOf h x).getD s.toNat 0, 0)
/-- The first object with a handle, changed. -/
def updL (l : List Ob) (x : Int) (f : Ob → Ob) : List Ob := match l with
  | [] => []
  | o :: l => if o.handle = x then f o :: l else o :: updL l x f
def updO (h : Hp) (x : Int) (f : Ob → Ob) : Hp := if inL h.young x = true then { h with young := updL h.young x f } else { h with old := updL h.old x f }
def setOf (h : Hp) (x s z : Int) : Hp × Int := if ¬ slotErr h x s z = 0 then (h, slotErr h x s z) else (updO h x fun o => { o with slots := o.slots.set s.toNat z }, 0)
def rootsOf (h : Hp) (l : List Int) : Hp × Int :=
  if 50 < l.length ∨ l.any (fun x => decide (x < 0)) = true then (h, 1) else if l.any (fun x => !there h x) = true then (h, 3) else ({ h with roots := l }, 0)
def askedOf (h : Hp) (x : Int) : Int := if x < 0 then 1 else if there h x = false then 3 else 0
def weakOf (h : Hp) (x t : Int) : Hp × Int × Int := if ¬ askedOf h x = 0 then (h, 0, askedOf h x) else ({ h with weak := h.weak ++ [(x, t)] }, h.weak.length, 0)
def finalOf (h : Hp) (x t : Int) : Hp × Int := if ¬ askedOf h x = 0 then (h, askedOf h x) else ({ h with fins := h.fins ++ [(x, t)] }, 0)
def takeOf (h : Hp) : Hp × Int × Int := match h.queue with
  | [] => (h, 0, 3)
  | t :: q => ({ h with queue := q }, t, 0)
/-- Which values are left out of a walk. -/
def skipE (h : Hp) (minor : Bool) (x : Int) : Bool := decide (x = 0) || (minor && inL h.old x)
def skipP (h : Hp) (minor : Bool) (x : Int) : Bool := !there h x || (minor && inL h.old x)
def remB (h : Hp) (o : Ob) : Bool := o.slots.any (inL h.young)
def fromOf (h : Hp) (minor : Bool) : List Int := h.roots ++ if minor = true then ((h.old.filter (remB h)).map (·.slots)).flatten else []
def walkE (h : Hp) (minor : Bool) (from_ out : List Int) : List Int := bfs (slotsOf h) (skipE h minor) (from_.length + lftO (obs h) out) from_ out
def firstE (h : Hp) (minor : Bool) : List Int := walkE h minor (fromOf h minor) []
/-- The finals whose objects are dead, where those of 'fst' were met. -/
def deadB (h : Hp) (minor : Bool) (fst : Int → Bool) (f : Int × Int) : Bool := !(fst f.1 || (minor && inL h.old f.1))
def againOf (h : Hp) (minor : Bool) (fst : Int → Bool) : List Int := (h.fins.filter (deadB h minor fst)).map (·.1)
/-- Objects that get older; those for which there is room move to the old ones. -/
def promo (ro : Int) : List Ob → List Ob → List Ob → List Ob × List Ob
  | [], old, stay => (old, stay)
  | o :: l, old, stay => if 2 ≤ o.age + 1 ∧ (usedN old : Int) + o.slots.length ≤ ro then promo ro l (old ++ [{ o with age := o.age + 1 }]) stay else promo ro l old (stay ++ [{ o with age := o.age + 1 }])
def keepOld (h : Hp) (minor : Bool) (lv : Int → Bool) : List Ob := if minor = true then h.old else h.old.filter fun o => lv o.handle
def keepYoung (h : Hp) (lv : Int → Bool) : List Ob := h.young.filter fun o => lv o.handle
def goneB (h : Hp) (minor : Bool) (lv : Int → Bool) (x : Int) : Bool := there h x && !(inL (keepOld h minor lv) x || inL (keepYoung h lv) x)
/-- A collection, where 'fst' is met first and 'lv' is kept. -/
def collectBy (h : Hp) (minor : Bool) (fst lv : Int → Bool) : Hp × Int :=
  ({ h with
      young := (promo h.ro (keepYoung h lv) (keepOld h minor lv) []).2
      old := (promo h.ro (keepYoung h lv) (keepOld h minor lv) []).1
      fins := h.fins.filter fun f => !deadB h minor fst f
      queue := h.queue ++ (h.fins.filter (deadB h minor fst)).map (·.2)
      weak := h.weak.map fun w => if goneB h minor lv w.1 = true then (0, w.2) else w },
    (h.young.length + h.old.length : Int) - (keepYoung h lv).length - (keepOld h minor lv).length)
def liveE (h : Hp) (minor : Bool) : List Int := (againOf h minor fun x => (firstE h minor).contains x).foldl (fun out x => walkE h minor [x] out) (firstE h minor)
def collectE (h : Hp) (minor : Bool) : Hp × Int := collectBy h minor (fun x => (firstE h minor).contains x) fun x => (liveE h minor).contains x
def placeOf (h : Hp) (x : Int) : Bool × Int × Int × Int :=
  if ¬ askedOf h x = 0 then (false, 0, 0, askedOf h x) else if inL h.young x = true then (false, usedN (h.young.takeWhile fun o => decide (o.handle ≠ x)), (h.young.find? fun o => decide (o.handle = x)).elim 0 (·.age), 0)
  else (true, usedN (h.old.takeWhile fun o => decide (o.handle ≠ x)), (h.old.find? fun o => decide (o.handle = x)).elim 0 (·.age), 0)
def leI (x y : Int) : Bool := decide (x ≤ y)
def allOf (h : Hp) : List Int := ((obs h).map (·.handle)).mergeSort leI
def remembOf (h : Hp) : List Int := ((h.old.filter (remB h)).map (·.handle)).mergeSort leI
def liveOf (h : Hp) : List Int := (walkE h false h.roots []).mergeSort leI
def bornOf (a b : Int) : Hp := ⟨a, b, [], [], 1, [], [], [], []⟩

/-- A heap's laws. -/
structure Ok (h : Hp) : Prop where
  rooms : (8 ≤ h.ry ∧ h.ry ≤ 1000) ∧ 8 ≤ h.ro ∧ h.ro ≤ 1000
  dist : Dist (obs h)
  small : ∀ o ∈ obs h, 1 ≤ o.handle ∧ o.handle < h.next ∧ 1 ≤ o.slots.length ∧ o.slots.length ≤ 8 ∧ 0 ≤ o.age ∧ ∀ z ∈ o.slots, z = 0 ∨ there h z = true
  next : 1 ≤ h.next
  roots : h.roots.length ≤ 50 ∧ ∀ z ∈ h.roots, there h z = true
  usedY : (usedN h.young : Int) ≤ h.ry
  usedO : (usedN h.old : Int) ≤ h.ro
  fins : ∀ f ∈ h.fins, there h f.1 = true
  weak : ∀ f ∈ h.weak, f.1 = 0 ∨ there h f.1 = true
theorem usedN_app (l m : List Ob) : usedN (l ++ m) = usedN l + usedN m := by simp [usedN]
@[simp] theorem usedN_nil : usedN [] = 0 := rfl
theorem usedN_cons (o : Ob) (l : List Ob) : usedN (o :: l) = o.slots.length + usedN l := by simp [usedN]
theorem inL_app (l m : List Ob) (x : Int) : inL (l ++ m) x = (inL l x || inL m x) := by simp [inL]
theorem there_obs (h : Hp) (x : Int) : there h x = inL (obs h) x := by rw [obs, inL_app]; rfl
def older (o : Ob) : Ob := { o with age := o.age + 1 }
/-- What promo makes of its objects. -/
theorem promo_spec (ro : Int) : ∀ (l old stay : List Ob), (usedN old : Int) ≤ ro →
    ∃ a b : List Ob, (promo ro l old stay).1 = old ++ a.map older ∧ (promo ro l old stay).2 = stay ++ b.map older ∧ (a ++ b).Perm l ∧ a.Sublist l ∧ b.Sublist l ∧ (usedN (promo ro l old stay).1 : Int) ≤ ro
  | [], old, stay, h => ⟨[], [], by simp [promo], by simp [promo], by simp, by simp, by simp, by simpa [promo] using h⟩
  | o :: l, old, stay, h => by
    rw [promo]
    by_cases hc : 2 ≤ o.age + 1 ∧ (usedN old : Int) + o.slots.length ≤ ro
    · rw [if_pos hc]
      obtain ⟨a, b, h1, h2, h3, h4, h5, h6⟩ := promo_spec ro l (old ++ [older o]) stay (by rw [usedN_app, usedN_cons]; simp only [older, usedN_nil]; omega)
      exact ⟨o :: a, b, by rw [show ({ o with age := o.age + 1 } : Ob) = older o from rfl, h1]; simp, h2, by simpa using h3.cons o, h4.cons_cons o, h5.cons o, h6⟩
    · rw [if_neg hc]
      obtain ⟨a, b, h1, h2, h3, h4, h5, h6⟩ := promo_spec ro l old (stay ++ [older o]) h
      refine ⟨a, o :: b, h1, by rw [show ({ o with age := o.age + 1 } : Ob) = older o from rfl, h2]; simp, ?_, h4.cons o, h5.cons_cons o, h6⟩
      exact (List.perm_middle).trans (h3.cons o)
theorem older_handles (l : List Ob) : (l.map older).map (·.handle) = l.map (·.handle) := by simp [older]
theorem older_used (l : List Ob) : usedN (l.map older) = usedN l := by simp [usedN, older, Function.comp_def]
theorem inL_older (l : List Ob) (x : Int) : inL (l.map older) x = inL l x := by rw [inL, inL, List.any_map]; rfl
theorem inL_perm {l m : List Ob} (h : l.Perm m) (x : Int) : inL l x = inL m x := by
  rw [Bool.eq_iff_iff, inL_mem, inL_mem]; exact (h.map _).mem_iff
theorem usedN_perm {l m : List Ob} (h : l.Perm m) : usedN l = usedN m := (h.map _).sum_nat
theorem usedN_sub {l m : List Ob} (h : l.Sublist m) : usedN l ≤ usedN m := by
  induction h with
  | slnil => simp
  | cons _ _ ih => rw [usedN_cons]; omega
  | cons_cons _ _ ih => rw [usedN_cons, usedN_cons]; omega
theorem inL_filter {l : List Ob} {p : Int → Bool} (x : Int) : inL (l.filter fun o => p o.handle) x = (inL l x && p x) := by
  rw [Bool.eq_iff_iff]
  simp only [inL, List.any_eq_true, List.mem_filter, decide_eq_true_eq, Bool.and_eq_true]
  constructor
  · rintro ⟨o, ⟨h1, h2⟩, rfl⟩; exact ⟨⟨o, h1, rfl⟩, h2⟩
  · rintro ⟨⟨o, h1, rfl⟩, h2⟩; exact ⟨o, ⟨h1, h2⟩, rfl⟩
/-- What a collection leaves. -/
theorem collect_parts {h : Hp} (k : Ok h) (minor : Bool) (fst lv : Int → Bool) : ∃ a b : List Ob,
    (collectBy h minor fst lv).1.old = keepOld h minor lv ++ a.map older ∧ (collectBy h minor fst lv).1.young = b.map older ∧ (a ++ b).Perm (keepYoung h lv) ∧ a.Sublist (keepYoung h lv) ∧ b.Sublist (keepYoung h lv) ∧
    (usedN (collectBy h minor fst lv).1.old : Int) ≤ h.ro := by
  have hu : (usedN (keepOld h minor lv) : Int) ≤ h.ro := by
    have h1 := k.usedO
    have h2 : usedN (keepOld h minor lv) ≤ usedN h.old := by
      rw [keepOld]; split
      · exact Nat.le_refl _
      · exact usedN_sub List.filter_sublist
    omega
  obtain ⟨a, b, h1, h2, h3, h4, h5, h6⟩ := promo_spec h.ro (keepYoung h lv) (keepOld h minor lv) [] hu
  exact ⟨a, b, h1, h2, h3, h4, h5, h6⟩
theorem keep_in (h : Hp) (minor : Bool) (lv : Int → Bool) (x : Int) : inL (keepOld h minor lv) x = (inL h.old x && (minor || lv x)) := by
  rw [keepOld]; split
  · simp_all
  · rename_i hm; simp at hm; rw [inL_filter, hm]; simp
theorem keepY_in (h : Hp) (lv : Int → Bool) (x : Int) : inL (keepYoung h lv) x = (inL h.young x && lv x) := inL_filter x
theorem collect_there {h : Hp} (k : Ok h) (minor : Bool) (fst lv : Int → Bool) (x : Int) :
    there (collectBy h minor fst lv).1 x = (inL h.old x && (minor || lv x) || inL h.young x && lv x) := by
  obtain ⟨a, b, h1, h2, h3, _⟩ := collect_parts k minor fst lv
  rw [there, h1, h2, inL_app, inL_older, inL_older, keep_in]
  have := inL_perm h3 x
  rw [inL_app, keepY_in] at this
  rw [← this]
  cases inL a x <;> cases inL b x <;> cases (inL h.old x && (minor || lv x)) <;> rfl

/-- The values that a heap speaks of. -/
def Val (h : Hp) (z : Int) : Prop := z = 0 ∨ there h z = true
theorem Ok.slots {h : Hp} (k : Ok h) {x z : Int} (hz : z ∈ slotsOf h x) : Val h z := by
  rw [slotsOf, slotsL] at hz
  split at hz
  · rename_i o ho
    exact (k.small o (List.mem_of_find?_eq_some ho)).2.2.2.2.2 z hz
  · cases hz
theorem Ok.pos {h : Hp} (k : Ok h) {x : Int} (hx : there h x = true) : 1 ≤ x ∧ x < h.next := by
  rw [there_obs] at hx
  obtain ⟨o, ho, rfl⟩ := List.mem_map.1 (inL_mem.1 hx)
  have := k.small o ho
  exact ⟨this.1, this.2.1⟩
theorem skip_same {h : Hp} (k : Ok h) (minor : Bool) {z : Int} (hz : Val h z) : skipE h minor z = skipP h minor z := by
  rw [skipE, skipP]
  rcases hz with rfl | hz
  · have : there h 0 = false := by cases e : there h 0 with
      | false => rfl
      | true => have := k.pos e; omega
    simp [this]
  · have := k.pos hz
    have h0 : ¬ z = 0 := by omega
    simp [hz, h0]
theorem RS_same {h : Hp} (k : Ok h) (minor : Bool) {l : List Int} (hl : ∀ z ∈ l, Val h z) (y : Int) : RS (slotsOf h) (skipE h minor) l y ↔ RS (slotsOf h) (skipP h minor) l y := by
  constructor
  · intro hr
    induction hr with
    | base hy hs => exact .base hy (by rw [← skip_same k minor (hl _ hy)]; exact hs)
    | step _ hy hs ih => exact .step ih hy (by rw [← skip_same k minor (k.slots hy)]; exact hs)
  · intro hr
    induction hr with
    | base hy hs => exact .base hy (by rw [skip_same k minor (hl _ hy)]; exact hs)
    | step _ hy hs ih => exact .step ih hy (by rw [skip_same k minor (k.slots hy)]; exact hs)
theorem RS_val {h : Hp} (k : Ok h) {skip : Int → Bool} {l : List Int} (hl : ∀ z ∈ l, Val h z) {y : Int} (hr : RS (slotsOf h) skip l y) : Val h y := by
  cases hr with
  | base hy _ => exact hl _ hy
  | step _ hy _ => exact k.slots hy
theorem from_val {h : Hp} (k : Ok h) (minor : Bool) : ∀ z ∈ fromOf h minor, Val h z := by
  intro z hz
  rw [fromOf, List.mem_append] at hz
  rcases hz with hz | hz
  · exact .inr (k.roots.2 z hz)
  · split at hz
    · obtain ⟨s, hs, hzs⟩ := List.mem_flatten.1 hz
      obtain ⟨o, ho, rfl⟩ := List.mem_map.1 hs
      exact (k.small o (by simp [obs, (List.mem_filter.1 ho).1])).2.2.2.2.2 z hzs
    · cases hz
/-- What is met first, and what is kept. -/
structure Lv (h : Hp) (minor : Bool) (fst lv : Int → Bool) : Prop where
  first : ∀ x, fst x = true ↔ RS (slotsOf h) (skipP h minor) (fromOf h minor) x
  live : ∀ x, lv x = true ↔ RS (slotsOf h) (skipP h minor) (fromOf h minor ++ againOf h minor fst) x
theorem Lv.more {h : Hp} {minor : Bool} {fst lv : Int → Bool} (v : Lv h minor fst lv) {x : Int} (hx : fst x = true) : lv x = true :=
  (v.live x).2 (((v.first x).1 hx).mono fun _ hz hs => .base (by simp [hz]) hs)
/-- Which values stay. -/
def stays (h : Hp) (minor : Bool) (lv : Int → Bool) (z : Int) : Bool := inL h.old z && (minor || lv z) || inL h.young z && lv z
theorem stays_of {h : Hp} {minor : Bool} {fst lv : Int → Bool} (v : Lv h minor fst lv) {l : List Int} {z : Int} (hz : there h z = true) (hl : z ∈ fromOf h minor ++ againOf h minor fst ∨ ∃ x, lv x = true ∧ z ∈ slotsOf h x) : stays h minor lv z = true := by
  rw [stays]
  by_cases hs : skipP h minor z = false
  · have : lv z = true := by
      rw [v.live]
      rcases hl with hl | ⟨x, hx, hl⟩
      · exact .base hl hs
      · exact .step ((v.live x).1 hx) hl hs
    rw [this]
    rw [there] at hz
    cases h1 : inL h.young z <;> cases h2 : inL h.old z <;> simp_all
  · rw [skipP, hz] at hs
    simp at hs
    simp [hs.1, hs.2]
theorem slotsL_mem {l : List Ob} (hd : Dist l) {o : Ob} (ho : o ∈ l) : slotsL l o.handle = o.slots := by
  induction l with
  | nil => cases ho
  | cons p l ih =>
    rw [Dist, List.map_cons, List.nodup_cons] at hd
    rw [slotsL_cons]
    rcases List.mem_cons.1 ho with rfl | ho
    · rw [if_pos rfl]
    · rw [if_neg (fun e => hd.1 (by rw [e]; exact List.mem_map_of_mem ho)), ih hd.2 ho]
theorem o_collect {h : Hp} (k : Ok h) {minor : Bool} {fst lv : Int → Bool} (v : Lv h minor fst lv) : Ok (collectBy h minor fst lv).1 := by
  obtain ⟨a, b, h1, h2, h3, h4, h5, h6⟩ := collect_parts k minor fst lv
  have hth := collect_there k minor fst lv
  have hst : ∀ z, stays h minor lv z = true → there (collectBy h minor fst lv).1 z = true := fun z hz => by rw [hth]; exact hz
  have hsub : ∀ o ∈ keepYoung h lv, o ∈ h.young ∧ lv o.handle = true := fun o ho => List.mem_filter.1 ho
  have hko : ∀ o ∈ keepOld h minor lv, o ∈ h.old ∧ (minor = true ∨ lv o.handle = true) := fun o ho => by
    rw [keepOld] at ho; split at ho
    · rename_i hm; exact ⟨ho, .inl hm⟩
    · exact ⟨(List.mem_filter.1 ho).1, .inr (List.mem_filter.1 ho).2⟩
  have hslot : ∀ o, (o ∈ keepYoung h lv ∨ o ∈ keepOld h minor lv) → ∀ z ∈ o.slots, z = 0 ∨ there (collectBy h minor fst lv).1 z = true := by
    intro o ho z hz
    have hoo : o ∈ obs h := by
      rcases ho with ho | ho
      · simp [obs, (hsub o ho).1]
      · simp [obs, (hko o ho).1]
    have hso := slotsL_mem k.dist hoo
    rcases (k.small o hoo).2.2.2.2.2 z hz with rfl | hzt
    · exact .inl rfl
    · refine .inr (hst z ?_)
      by_cases hl : lv o.handle = true
      · exact stays_of v (l := []) hzt (.inr ⟨o.handle, hl, by rw [slotsOf, hso]; exact hz⟩)
      · rcases ho with ho | ho
        · exact absurd (hsub o ho).2 hl
        · obtain ⟨ho1, hm | hm⟩ := hko o ho
          · by_cases hy : inL h.young z = true
            · refine stays_of v (l := []) hzt (.inl ?_)
              rw [List.mem_append, fromOf, if_pos hm, List.mem_append]
              refine .inl (.inr (List.mem_flatten.2 ⟨o.slots, List.mem_map.2 ⟨o, List.mem_filter.2 ⟨ho1, ?_⟩, rfl⟩, hz⟩))
              rw [remB, List.any_eq_true]; exact ⟨z, hz, hy⟩
            · rw [there] at hzt
              simp only [Bool.not_eq_true] at hy
              rw [hy] at hzt
              simp only [Bool.false_or] at hzt
              rw [stays, hzt, hm]; simp
          · exact absurd hm hl
  have hall : ∀ o ∈ obs (collectBy h minor fst lv).1, ∃ p, (p ∈ keepYoung h lv ∨ p ∈ keepOld h minor lv) ∧ p ∈ obs h ∧ o.handle = p.handle ∧ o.slots = p.slots ∧ p.age ≤ o.age := by
    intro o ho
    rw [obs, h1, h2] at ho
    simp only [List.mem_append, List.mem_map] at ho
    rcases ho with ⟨p, hp, rfl⟩ | ho | ⟨p, hp, rfl⟩
    · have := h5.subset hp
      exact ⟨p, .inl this, by simp [obs, (hsub p this).1], rfl, rfl, by simp [older]; omega⟩
    · exact ⟨o, .inr ho, by simp [obs, (hko o ho).1], rfl, rfl, Int.le_refl _⟩
    · have := h4.subset hp
      exact ⟨p, .inl this, by simp [obs, (hsub p this).1], rfl, rfl, by simp [older]; omega⟩
  refine ⟨k.rooms, ?_, fun o ho => ?_, k.next, ⟨k.roots.1, fun z hz => ?_⟩, ?_, h6, fun f hf => ?_, fun f hf => ?_⟩
  · have hp : ((obs (collectBy h minor fst lv).1).map (·.handle)).Perm (((keepYoung h lv) ++ keepOld h minor lv).map (·.handle)) := by
      rw [obs, h1, h2]
      simp only [List.map_append, older_handles]
      have := (h3.map (·.handle))
      rw [List.map_append] at this
      refine (List.perm_append_comm).trans ?_
      rw [List.append_assoc]
      refine (List.Perm.append_left _ this).trans ?_
      exact List.perm_append_comm
    have hs : ((keepYoung h lv) ++ keepOld h minor lv).Sublist (obs h) := by
      rw [obs]
      refine List.Sublist.append List.filter_sublist ?_
      rw [keepOld]; split
      · exact List.Sublist.refl _
      · exact List.filter_sublist
    exact hp.nodup_iff.2 ((hs.map _).nodup k.dist)
  · obtain ⟨p, hp, hpo, e1, e2, e3⟩ := hall o ho
    have := k.small p hpo
    rw [e1, e2]
    exact ⟨this.1, this.2.1, this.2.2.1, this.2.2.2.1, by omega, hslot p hp⟩
  · exact hst z (stays_of v (l := []) (k.roots.2 z hz) (.inl (by simp only [List.mem_append, fromOf]; exact .inl (.inl hz))))
  · have : usedN (collectBy h minor fst lv).1.young ≤ usedN h.young := by
      rw [h2, older_used]
      exact Nat.le_trans (usedN_sub h5) (usedN_sub List.filter_sublist)
    have := k.usedY
    show (usedN (collectBy h minor fst lv).1.young : Int) ≤ h.ry
    omega
  · obtain ⟨hf1, hf2⟩ := List.mem_filter.1 hf
    refine hst _ ?_
    have hft := k.fins f hf1
    simp only [deadB, Bool.not_not, Bool.or_eq_true, Bool.and_eq_true] at hf2
    rw [stays]
    rcases hf2 with h9 | ⟨h9, h10⟩
    · have := v.more h9
      rw [this]
      rw [there] at hft
      cases h11 : inL h.young f.1 <;> cases h12 : inL h.old f.1 <;> simp_all
    · rw [h9, h10]; simp
  · obtain ⟨w, hw, rfl⟩ := List.mem_map.1 hf
    split
    · exact .inl rfl
    · rename_i hg
      rcases k.weak w hw with h9 | h9
      · exact .inl h9
      · refine .inr (hst _ ?_)
        rw [goneB, h9, keep_in, keepY_in] at hg
        rw [stays]
        cases e1 : inL h.old w.1 <;> cases e2 : inL h.young w.1 <;> cases e3 : lv w.1 <;> cases minor <;> simp_all [there]
theorem usedN_one (o : Ob) : usedN [o] = o.slots.length := by simp [usedN]
theorem there_app {h : Hp} {l : List Ob} {x : Int} (hx : there h x = true) : there { h with young := h.young ++ l } x = true := by
  rw [there, inL_app]; rw [there] at hx
  cases h1 : inL h.young x <;> cases h2 : inL h.old x <;> simp_all
theorem o_make {h : Hp} (k : Ok h) (n : Int) : Ok (makeOf h n).1 := by
  rw [makeOf]
  split
  · exact k
  · rename_i h1
    split
    · exact k
    · rename_i h2
      obtain ⟨m, rfl⟩ : ∃ m : Nat, n = m := ⟨n.toNat, by omega⟩
      rw [Int.toNat_natCast]
      dsimp only
      have hth : ∀ z, there h z = true → there { h with young := h.young ++ [⟨h.next, 0, List.replicate m 0⟩], next := h.next + 1 } z = true := fun z hz => there_app (l := [⟨h.next, 0, List.replicate m 0⟩]) hz
      refine ⟨k.rooms, ?_, fun o ho => ?_, by have := k.next; show 1 ≤ h.next + 1; omega, ⟨k.roots.1, fun z hz => hth z (k.roots.2 z hz)⟩, ?_, k.usedO, fun f hf => hth _ (k.fins f hf), fun f hf => (k.weak f hf).imp id (hth _)⟩
      · have hn : ∀ o ∈ obs h, o.handle ≠ h.next := fun o ho => by have := k.small o ho; omega
        have hp : (obs { h with young := h.young ++ [⟨h.next, 0, List.replicate m 0⟩], next := h.next + 1 }).Perm (⟨h.next, 0, List.replicate m 0⟩ :: obs h) := by
          simp only [obs, List.append_assoc, List.singleton_append]
          exact List.perm_middle
        rw [Dist, (hp.map _).nodup_iff, List.map_cons, List.nodup_cons]
        refine ⟨fun hm => ?_, k.dist⟩
        obtain ⟨o, ho, e⟩ := List.mem_map.1 hm
        exact hn o ho e
      · simp only [obs, List.append_assoc, List.mem_append, List.mem_singleton] at ho
        rcases ho with ho | ho | ho
        · have := k.small o (by simp [obs, ho])
          exact ⟨this.1, by show o.handle < h.next + 1; omega, this.2.2.1, this.2.2.2.1, this.2.2.2.2.1, fun z hz => (this.2.2.2.2.2 z hz).imp id (hth z)⟩
        · subst ho
          have := k.next
          refine ⟨this, by show h.next < h.next + 1; omega, by simp; omega, by simp; omega, Int.le_refl _, fun z hz => .inl ?_⟩
          exact (List.mem_replicate.1 hz).2
        · have := k.small o (by simp [obs, ho])
          exact ⟨this.1, by show o.handle < h.next + 1; omega, this.2.2.1, this.2.2.2.1, this.2.2.2.2.1, fun z hz => (this.2.2.2.2.2 z hz).imp id (hth z)⟩
      · show (usedN (h.young ++ [⟨h.next, 0, List.replicate m 0⟩]) : Int) ≤ h.ry
        rw [usedN_app, usedN_one, List.length_replicate]; omega
theorem updL_handles (l : List Ob) (x : Int) {f : Ob → Ob} (hf : ∀ o, (f o).handle = o.handle) : (updL l x f).map (·.handle) = l.map (·.handle) := by
  induction l with
  | nil => rfl
  | cons o l ih => rw [updL]; split <;> simp [hf, ih]
theorem updL_mem {l : List Ob} {x : Int} {f : Ob → Ob} {o : Ob} (ho : o ∈ updL l x f) : o ∈ l ∨ ∃ p ∈ l, p.handle = x ∧ o = f p := by
  induction l with
  | nil => cases ho
  | cons p l ih =>
    rw [updL] at ho
    split at ho
    · rename_i hp
      rcases List.mem_cons.1 ho with rfl | ho
      · exact .inr ⟨p, by simp, hp, rfl⟩
      · exact .inl (by simp [ho])
    · rcases List.mem_cons.1 ho with rfl | ho
      · exact .inl (by simp)
      · rcases ih ho with h | ⟨q, hq, h1, h2⟩
        · exact .inl (by simp [h])
        · exact .inr ⟨q, by simp [hq], h1, h2⟩
theorem updL_used (l : List Ob) (x : Int) {f : Ob → Ob} (hf : ∀ o, (f o).slots.length = o.slots.length) : usedN (updL l x f) = usedN l := by
  induction l with
  | nil => rfl
  | cons o l ih => rw [updL]; split <;> simp [usedN_cons, hf, ih]
theorem inL_upd (l : List Ob) (x : Int) {f : Ob → Ob} (hf : ∀ o, (f o).handle = o.handle) (y : Int) : inL (updL l x f) y = inL l y := by
  rw [Bool.eq_iff_iff, inL_mem, inL_mem, updL_handles l x hf]
theorem o_upd {h : Hp} (k : Ok h) (x : Int) {f : Ob → Ob} (hf : ∀ o, (f o).handle = o.handle ∧ (f o).slots.length = o.slots.length ∧ (f o).age = o.age) (hs : ∀ o ∈ obs h, ∀ z ∈ (f o).slots, Val h z) : Ok (updO h x f) := by
  have hh : ∀ o, (f o).handle = o.handle := fun o => (hf o).1
  have hth : ∀ z, there (updO h x f) z = there h z := fun z => by
    rw [updO]; split <;> simp only [there, inL_upd _ _ hh]
  have hmem : ∀ o ∈ obs (updO h x f), o ∈ obs h ∨ ∃ p ∈ obs h, o = f p := fun o ho => by
    rw [updO] at ho
    split at ho
    · simp only [obs, List.mem_append] at ho ⊢
      rcases ho with ho | ho
      · rcases updL_mem ho with h1 | ⟨p, h1, _, h2⟩
        · exact .inl (.inl h1)
        · exact .inr ⟨p, .inl h1, h2⟩
      · exact .inl (.inr ho)
    · simp only [obs, List.mem_append] at ho ⊢
      rcases ho with ho | ho
      · exact .inl (.inl ho)
      · rcases updL_mem ho with h1 | ⟨p, h1, _, h2⟩
        · exact .inl (.inr h1)
        · exact .inr ⟨p, .inr h1, h2⟩
  have hv : ∀ z, Val h z → z = 0 ∨ there (updO h x f) z = true := fun z hz => by rw [hth]; exact hz
  have hpar : (updO h x f).ry = h.ry ∧ (updO h x f).ro = h.ro ∧ (updO h x f).next = h.next ∧ (updO h x f).roots = h.roots ∧ (updO h x f).fins = h.fins ∧ (updO h x f).weak = h.weak ∧ usedN (updO h x f).young = usedN h.young ∧ usedN (updO h x f).old = usedN h.old := by
    rw [updO]; split <;> simp [updL_used _ _ fun o => (hf o).2.1]
  obtain ⟨p1, p2, p3, p4, p5, p6, p7, p8⟩ := hpar
  refine ⟨by rw [p1, p2]; exact k.rooms, ?_, fun o ho => ?_, by rw [p3]; exact k.next, by rw [p4]; exact ⟨k.roots.1, fun z hz => by rw [hth]; exact k.roots.2 z hz⟩, by rw [p7, p1]; exact k.usedY, by rw [p8, p2]; exact k.usedO,
    fun g hg => by rw [p5] at hg; rw [hth]; exact k.fins g hg, fun g hg => by rw [p6] at hg; rw [hth]; exact k.weak g hg⟩
  · have : (obs (updO h x f)).map (·.handle) = (obs h).map (·.handle) := by
      rw [updO]; split <;> simp [obs, updL_handles _ _ hh]
    rw [Dist, this]; exact k.dist
  · rw [p3]
    rcases hmem o ho with h1 | ⟨p, h1, rfl⟩
    · have := k.small o h1
      exact ⟨this.1, this.2.1, this.2.2.1, this.2.2.2.1, this.2.2.2.2.1, fun z hz => hv z (this.2.2.2.2.2 z hz)⟩
    · have := k.small p h1
      rw [(hf p).1, (hf p).2.1, (hf p).2.2]
      exact ⟨this.1, this.2.1, this.2.2.1, this.2.2.2.1, this.2.2.2.2.1, fun z hz => hv z (hs p h1 z hz)⟩
theorem o_set {h : Hp} (k : Ok h) (x s z : Int) : Ok (setOf h x s z).1 := by
  rw [setOf]
  split
  · exact k
  · rename_i he
    have he0 : slotErr h x s z = 0 := Classical.byContradiction he
    have hz : Val h z := by
      rw [slotErr] at he0
      split at he0
      · cases he0
      · rename_i h1
        split at he0
        · cases he0
        · split at he0
          · cases he0
          · rename_i h3
            by_cases e : z = 0
            · exact .inl e
            · refine .inr ?_
              cases ht : there h z with
              | true => rfl
              | false => exact absurd (.inr ⟨by omega, ht⟩) h3
    refine o_upd k x (fun o => ⟨rfl, by simp, rfl⟩) fun o ho y hy => ?_
    rcases List.mem_or_eq_of_mem_set hy with hy | rfl
    · exact (k.small o ho).2.2.2.2.2 y hy
    · exact hz
theorem o_roots {h : Hp} (k : Ok h) (l : List Int) : Ok (rootsOf h l).1 := by
  rw [rootsOf]
  split
  · exact k
  · rename_i h1
    split
    · exact k
    · rename_i h2
      refine ⟨k.rooms, k.dist, k.small, k.next, ⟨Nat.le_of_not_lt fun h => h1 (.inl h), fun z hz => ?_⟩, k.usedY, k.usedO, k.fins, k.weak⟩
      cases ht : there h z with
      | true => exact ht
      | false => exact absurd (List.any_eq_true.2 ⟨z, hz, by simp [ht]⟩) h2
theorem asked_there {h : Hp} {x : Int} (ha : askedOf h x = 0) : there h x = true := by
  rw [askedOf] at ha
  split at ha
  · cases ha
  · split at ha
    · cases ha
    · rename_i h2; simpa using h2
theorem o_weak {h : Hp} (k : Ok h) (x t : Int) : Ok (weakOf h x t).1 := by
  rw [weakOf]
  split
  · exact k
  · rename_i ha
    refine ⟨k.rooms, k.dist, k.small, k.next, k.roots, k.usedY, k.usedO, k.fins, fun f hf => ?_⟩
    rcases List.mem_append.1 hf with hf | hf
    · exact k.weak f hf
    · rw [List.mem_singleton] at hf; subst hf
      exact .inr (asked_there (Classical.byContradiction ha))
theorem o_final {h : Hp} (k : Ok h) (x t : Int) : Ok (finalOf h x t).1 := by
  rw [finalOf]
  split
  · exact k
  · rename_i ha
    refine ⟨k.rooms, k.dist, k.small, k.next, k.roots, k.usedY, k.usedO, fun f hf => ?_, k.weak⟩
    rcases List.mem_append.1 hf with hf | hf
    · exact k.fins f hf
    · rw [List.mem_singleton] at hf; subst hf
      exact asked_there (Classical.byContradiction ha)
theorem o_take {h : Hp} (k : Ok h) : Ok (takeOf h).1 := by
  rw [takeOf]
  split
  · exact k
  · exact ⟨k.rooms, k.dist, k.small, k.next, k.roots, k.usedY, k.usedO, k.fins, k.weak⟩
theorem o_born {a b : Int} (h1 : 8 ≤ a ∧ a ≤ 1000) (h2 : 8 ≤ b ∧ b ≤ 1000) : Ok (bornOf a b) :=
  ⟨⟨h1, h2⟩, by simp [bornOf, Dist, obs], by simp [bornOf, obs], by simp [bornOf], by simp [bornOf], by simp [bornOf]; omega, by simp [bornOf]; omega, by simp [bornOf], by simp [bornOf]⟩

/-- The document's walk meets just what is reached. -/
theorem walk_spec {h : Hp} (k : Ok h) (minor : Bool) {from_ out : List Int} (hf : ∀ z ∈ from_, Val h z) (ho : ∀ x ∈ out, there h x = true) (hc : ∀ x ∈ out, ∀ y ∈ slotsOf h x, skipP h minor y = false → y ∈ out) :
    (∀ x, x ∈ walkE h minor from_ out ↔ x ∈ out ∨ RS (slotsOf h) (skipP h minor) from_ x) ∧ (∀ x ∈ walkE h minor from_ out, there h x = true) ∧ (∀ x ∈ walkE h minor from_ out, ∀ y ∈ slotsOf h x, skipP h minor y = false → y ∈ walkE h minor from_ out) := by
  have hV : ∀ x, Val h x → skipE h minor x = false → inL (obs h) x = true := fun x hx hs => by
    rw [← there_obs]
    rcases hx with rfl | hx
    · simp [skipE] at hs
    · exact hx
  have hS : ∀ x, inL (obs h) x = true → ∀ y ∈ slotsL (obs h) x, Val h y := fun x _ y hy => k.slots hy
  have hse : ∀ x y, y ∈ slotsOf h x → skipE h minor y = skipP h minor y := fun x y hy => skip_same k minor (k.slots hy)
  obtain ⟨b1, b2, b3, b4, b5⟩ := bfs_spec k.dist hV hS (from_.length + lftO (obs h) out) from_ out (Nat.le_refl _) hf (fun x hx => by rw [← there_obs]; exact ho x hx)
    (fun x hx y hy hs => .inl (hc x hx y hy (by rw [← hse x y hy]; exact hs)))
  refine ⟨fun x => ⟨fun hx => ?_, fun hx => ?_⟩, fun x hx => by rw [there_obs]; exact b3 x hx, fun x hx y hy hs => b4 x hx y hy (by rw [hse x y hy]; exact hs)⟩
  · exact (b5 x hx).imp id fun hr => (RS_same k minor hf x).1 hr
  · rcases hx with hx | hx
    · exact b1 x hx
    · exact ((RS_same k minor hf x).2 hx).closed (Q := fun x => x ∈ walkE h minor from_ out) b2 b4
theorem first_spec {h : Hp} (k : Ok h) (minor : Bool) : (∀ x, x ∈ firstE h minor ↔ RS (slotsOf h) (skipP h minor) (fromOf h minor) x) ∧ (∀ x ∈ firstE h minor, there h x = true) ∧ (∀ x ∈ firstE h minor, ∀ y ∈ slotsOf h x, skipP h minor y = false → y ∈ firstE h minor) := by
  have := walk_spec k minor (out := []) (from_val k minor) (by simp) (by simp)
  simpa [firstE] using this
theorem again_there {h : Hp} (k : Ok h) {minor : Bool} {fst : Int → Bool} : ∀ x ∈ againOf h minor fst, there h x = true := fun x hx => by
  obtain ⟨f, hf, rfl⟩ := List.mem_map.1 hx
  exact k.fins f (List.mem_filter.1 hf).1
theorem RS_app {sl : Int → List Int} {skip : Int → Bool} {l m : List Int} {x : Int} : RS sl skip (l ++ m) x ↔ RS sl skip l x ∨ RS sl skip m x := by
  constructor
  · intro h
    induction h with
    | base hy hs => exact (List.mem_append.1 hy).imp (fun h => .base h hs) (fun h => .base h hs)
    | step _ hy hs ih => exact ih.imp (fun h => .step h hy hs) (fun h => .step h hy hs)
  · rintro (h | h)
    · exact h.mono fun z hz hs => .base (by simp [hz]) hs
    · exact h.mono fun z hz hs => .base (by simp [hz]) hs
theorem fold_spec {h : Hp} (k : Ok h) (minor : Bool) : ∀ (l out : List Int), (∀ z ∈ l, there h z = true) → (∀ x ∈ out, there h x = true) → (∀ x ∈ out, ∀ y ∈ slotsOf h x, skipP h minor y = false → y ∈ out) →
    ∀ x, x ∈ l.foldl (fun out x => walkE h minor [x] out) out ↔ x ∈ out ∨ RS (slotsOf h) (skipP h minor) l x
  | [], out, _, _, _, x => by
    simp only [List.foldl_nil]
    refine ⟨.inl, fun h => h.elim id fun h => ?_⟩
    exact absurd (h.closed (Q := fun _ => False) (by simp) (by simp)) id
  | z :: l, out, hl, ho, hc, x => by
    obtain ⟨h1, h2, h3⟩ := walk_spec k minor (from_ := [z]) (out := out) (fun y hy => .inr (by rw [List.mem_singleton.1 hy]; exact hl z (by simp))) ho hc
    rw [List.foldl_cons, fold_spec k minor l _ (fun y hy => hl y (by simp [hy])) h2 h3 x, h1, or_assoc, ← RS_app]
    rfl
theorem lv_E {h : Hp} (k : Ok h) (minor : Bool) : Lv h minor (fun x => (firstE h minor).contains x) fun x => (liveE h minor).contains x := by
  obtain ⟨h1, h2, h3⟩ := first_spec k minor
  refine ⟨fun x => by simp only [List.contains_iff_mem]; exact h1 x, fun x => ?_⟩
  simp only [List.contains_iff_mem]
  rw [liveE, fold_spec k minor _ _ (again_there k) h2 h3, h1, RS_app]
theorem collect_same {h : Hp} {minor : Bool} {fst lv fst' lv' : Int → Bool} (v : Lv h minor fst lv) (v' : Lv h minor fst' lv') : collectBy h minor fst lv = collectBy h minor fst' lv' := by
  have e1 : fst = fst' := funext fun x => by rw [Bool.eq_iff_iff, v.first, v'.first]
  subst e1
  have e2 : lv = lv' := funext fun x => by rw [Bool.eq_iff_iff, v.live, v'.live]
  rw [e2]
theorem collect_E {h : Hp} (k : Ok h) {minor : Bool} {fst lv : Int → Bool} (v : Lv h minor fst lv) : collectBy h minor fst lv = collectE h minor := collect_same v (lv_E k minor)
theorem there_stays {h : Hp} (k : Ok h) (minor : Bool) (fst lv : Int → Bool) (x : Int) : there (collectBy h minor fst lv).1 x = stays h minor lv x := collect_there k minor fst lv x
theorem stays_there {h : Hp} {minor : Bool} {lv : Int → Bool} {x : Int} (hs : stays h minor lv x = true) : there h x = true := by
  rw [stays] at hs; rw [there]
  cases h1 : inL h.young x <;> cases h2 : inL h.old x <;> simp_all
theorem there_obj {h : Hp} {x : Int} (hx : there h x = true) : ∃ o ∈ obs h, o.handle = x := by
  rw [there_obs] at hx
  obtain ⟨o, ho, e⟩ := List.mem_map.1 (inL_mem.1 hx)
  exact ⟨o, ho, e⟩
/-- Each object that is there behind a collection was there, with its slots. -/
theorem collect_obj {h : Hp} (k : Ok h) {minor : Bool} {fst lv : Int → Bool} {o : Ob} (ho : o ∈ obs (collectBy h minor fst lv).1) : ∃ p ∈ obs h, o.handle = p.handle ∧ o.slots = p.slots := by
  obtain ⟨a, b, h1, h2, h3, h4, h5, h6⟩ := collect_parts k minor fst lv
  have hk : ∀ p ∈ keepYoung h lv, p ∈ obs h := fun p hp => by simp [obs, (List.mem_filter.1 hp).1]
  rw [obs, h1, h2] at ho
  simp only [List.mem_append, List.mem_map] at ho
  rcases ho with ⟨p, hp, rfl⟩ | ho | ⟨p, hp, rfl⟩
  · exact ⟨p, hk p (h5.subset hp), rfl, rfl⟩
  · refine ⟨o, ?_, rfl, rfl⟩
    rw [keepOld] at ho
    split at ho
    · simp [obs, ho]
    · simp [obs, (List.mem_filter.1 ho).1]
  · exact ⟨p, hk p (h4.subset hp), rfl, rfl⟩
theorem kept_slots {h : Hp} (k : Ok h) {minor : Bool} {fst lv : Int → Bool} (v : Lv h minor fst lv) {x : Int} (hx : there (collectBy h minor fst lv).1 x = true) : slotsOf (collectBy h minor fst lv).1 x = slotsOf h x := by
  obtain ⟨o, ho, rfl⟩ := there_obj hx
  obtain ⟨p, hp, e1, e2⟩ := collect_obj k ho
  rw [slotsOf, slotsL_mem (o_collect k v).dist ho, slotsOf, e1, slotsL_mem k.dist hp, e2]
/-- What the roots reach, through all. -/
def RR (h : Hp) (x : Int) : Prop := RS (slotsOf h) (skipP h false) h.roots x
theorem skip_there {h : Hp} {x : Int} : skipP h false x = false ↔ there h x = true := by simp [skipP]
theorem RR.there {h : Hp} {x : Int} (hr : RR h x) : there h x = true := skip_there.1 hr.not_skip
theorem old_slots {h : Hp} (k : Ok h) {p x : Int} (hp : inL h.old p = true) (hy : inL h.young p = false ∨ True) (hx : x ∈ slotsOf h p) (hxy : inL h.young x = true) : x ∈ fromOf h true := by
  obtain ⟨o, ho, rfl⟩ := List.mem_map.1 (inL_mem.1 hp)
  have hso := slotsL_mem k.dist (o := o) (by simp [obs, ho])
  rw [slotsOf, hso] at hx
  rw [fromOf, if_pos rfl, List.mem_append]
  refine .inr (List.mem_flatten.2 ⟨o.slots, List.mem_map.2 ⟨o, List.mem_filter.2 ⟨ho, ?_⟩, rfl⟩, hx⟩)
  rw [remB, List.any_eq_true]; exact ⟨x, hx, hxy⟩
theorem RR_stays {h : Hp} (k : Ok h) {minor : Bool} {fst lv : Int → Bool} (v : Lv h minor fst lv) {x : Int} (hr : RR h x) : stays h minor lv x = true := by
  induction hr with
  | base hy hs => exact stays_of v (l := []) (skip_there.1 hs) (.inl (by simp only [List.mem_append, fromOf]; exact .inl (.inl hy)))
  | step hp hy hs ih =>
    rename_i p x
    have hx := skip_there.1 hs
    by_cases hl : lv p = true
    · exact stays_of v (l := []) hx (.inr ⟨p, hl, hy⟩)
    · have hpo : inL h.old p = true ∧ minor = true := by
        rw [stays] at ih
        simp only [Bool.not_eq_true] at hl
        rw [hl] at ih
        simpa using ih
      obtain ⟨hpo, rfl⟩ := hpo
      by_cases hxy : inL h.young x = true
      · exact stays_of v (l := []) hx (.inl (List.mem_append.2 (.inl (old_slots k hpo (.inr trivial) hy hxy))))
      · rw [there] at hx
        simp only [Bool.not_eq_true] at hxy
        rw [hxy] at hx
        rw [stays, Bool.false_or] at *
        simp [hx]
theorem RR_collect {h : Hp} (k : Ok h) {minor : Bool} {fst lv : Int → Bool} (v : Lv h minor fst lv) (x : Int) : RR (collectBy h minor fst lv).1 x ↔ RR h x := by
  have hroots : (collectBy h minor fst lv).1.roots = h.roots := rfl
  constructor
  · intro hr
    induction hr with
    | base hy hs => exact .base hy (skip_there.2 (stays_there (by rw [← there_stays k minor fst lv]; exact skip_there.1 hs)))
    | step hp hy hs ih =>
      rw [kept_slots k v (RR.there hp)] at hy
      exact .step ih hy (skip_there.2 (stays_there (by rw [← there_stays k minor fst lv]; exact skip_there.1 hs)))
  · intro hr
    induction hr with
    | base hy hs => exact .base hy (skip_there.2 (by rw [there_stays k]; exact RR_stays k v (.base hy hs)))
    | step hp hy hs ih =>
      rename_i p y
      have hp' : there (collectBy h minor fst lv).1 p = true := by rw [there_stays k]; exact RR_stays k v hp
      exact .step ih (by rw [kept_slots k v hp']; exact hy) (skip_there.2 (by rw [there_stays k]; exact RR_stays k v (.step hp hy hs)))

/-! ### Ascending lists -/
theorem leI_trans (a b c : Int) (h1 : leI a b = true) (h2 : leI b c = true) : leI a c = true := by simp only [leI, decide_eq_true_eq] at *; omega
theorem leI_total (a b : Int) : (leI a b || leI b a) = true := by simp only [leI, Bool.or_eq_true, decide_eq_true_eq]; omega
theorem sorted_eq {l m : List Int} (h : l.Perm m) (h1 : l.Pairwise fun a b => leI a b = true) (h2 : m.Pairwise fun a b => leI a b = true) : l = m :=
  h.eq_of_pairwise (fun a b _ _ h3 h4 => by simp only [leI, decide_eq_true_eq] at *; omega) h1 h2
theorem sort_perm {l m : List Int} (h : l.Perm m) : l.mergeSort leI = m.mergeSort leI :=
  sorted_eq ((List.mergeSort_perm l leI).trans (h.trans (List.mergeSort_perm m leI).symm)) (List.pairwise_mergeSort leI_trans leI_total l) (List.pairwise_mergeSort leI_trans leI_total m)
theorem perm_of_mem {l m : List Int} (h1 : l.Nodup) (h2 : m.Nodup) (h : ∀ x, x ∈ l ↔ x ∈ m) : l.Perm m := by
  induction l generalizing m with
  | nil =>
    cases m with
    | nil => exact .refl _
    | cons a m => exact absurd ((h a).2 (by simp)) (by simp)
  | cons a l ih =>
    rw [List.nodup_cons] at h1
    have ha : a ∈ m := (h a).1 (by simp)
    have hp := List.perm_cons_erase ha
    refine .trans (.cons a (ih h1.2 (h2.erase a) fun x => ?_)) hp.symm
    rw [h2.mem_erase_iff, ← h x, List.mem_cons]
    constructor
    · exact fun hx => ⟨fun e => h1.1 (e ▸ hx), .inr hx⟩
    · rintro ⟨h3, rfl | h4⟩
      · exact absurd rfl h3
      · exact h4
theorem bfs_nodup (sl : Int → List Int) (skip : Int → Bool) : ∀ (n : Nat) (todo out : List Int), out.Nodup → (bfs sl skip n todo out).Nodup
  | 0, _, _, h => h
  | _ + 1, [], _, h => h
  | n + 1, x :: todo, out, h => by
    rw [bfs]
    split
    · exact bfs_nodup sl skip n todo out h
    · rename_i hx
      refine bfs_nodup sl skip n _ _ (List.nodup_append.2 ⟨h, by simp, fun a ha b hb e => hx (.inr ?_)⟩)
      rw [List.mem_singleton.1 hb] at e
      exact e ▸ ha
theorem liveOf_mem {h : Hp} (k : Ok h) (x : Int) : x ∈ walkE h false h.roots [] ↔ RR h x := by
  have := (walk_spec k false (from_ := h.roots) (out := []) (fun z hz => .inr (k.roots.2 z hz)) (by simp) (by simp)).1 x
  rw [this, RR]; simp
theorem live_eq {h : Hp} (k : Ok h) {l : List Int} (hn : l.Nodup) (hm : ∀ x, x ∈ l ↔ RR h x) : l.mergeSort leI = liveOf h := by
  rw [liveOf]
  refine sort_perm (perm_of_mem hn (bfs_nodup _ _ _ _ _ (by simp)) fun x => ?_)
  rw [hm, liveOf_mem k]
/-- The program picks what is met from all. -/
theorem live_filter {h : Hp} (k : Ok h) {p : Int → Bool} (hp : ∀ x, p x = true ↔ RR h x) : (allOf h).filter p = liveOf h := by
  have hs : ((allOf h).filter p).Pairwise fun a b => leI a b = true := (List.pairwise_mergeSort leI_trans leI_total _).filter _
  have hn : ((allOf h).filter p).Nodup := ((List.mergeSort_perm _ leI).nodup_iff.2 k.dist).filter _
  rw [← live_eq k hn (fun x => ?_)]
  · exact sorted_eq (List.mergeSort_perm _ _).symm hs (List.pairwise_mergeSort leI_trans leI_total _)
  · rw [List.mem_filter, hp, allOf, (List.mergeSort_perm _ leI).mem_iff]
    refine ⟨fun h => h.2, fun hr => ⟨?_, hr⟩⟩
    have := hr.there
    rw [there_obs, inL_mem] at this; exact this
theorem live_collect {h : Hp} (k : Ok h) (minor : Bool) : liveOf (collectE h minor).1 = liveOf h := by
  have v := lv_E k minor
  have k' := o_collect k v
  rw [← live_eq k (l := walkE (collectE h minor).1 false (collectE h minor).1.roots []) (bfs_nodup _ _ _ _ _ (by simp)) fun x => ?_]
  · rfl
  · rw [liveOf_mem (h := (collectE h minor).1) k']; exact RR_collect k v x
theorem liveOf_in {h : Hp} (k : Ok h) {x : Int} (hx : x ∈ liveOf h) : RR h x := by
  rw [liveOf, (List.mergeSort_perm _ leI).mem_iff, liveOf_mem k] at hx; exact hx
structure Hd where
  d : Int
  a : Int
  b : Int
  c : Int
  l : List Int
def doE (h : Hp) (d : Hd) : Hp × Int × Int :=
  if d.d = 0 then makeOf h d.a else if d.d = 1 then ((setOf h d.a d.b d.c).1, 0, (setOf h d.a d.b d.c).2) else if d.d = 2 then ((rootsOf h d.l).1, 0, (rootsOf h d.l).2)
  else if d.d = 3 then ((collectE h true).1, (collectE h true).2, 0) else if d.d = 4 then ((collectE h false).1, (collectE h false).2, 0)
  else if d.d = 5 then weakOf h d.a d.b else if d.d = 6 then ((finalOf h d.a d.b).1, 0, (finalOf h d.a d.b).2) else if d.d = 7 then takeOf h else (h, 0, 0)
/-- A heap behind n deeds. -/
structure Fine (n : Nat) (h : Hp) : Prop where
  ok : Ok h
  next : h.next ≤ n + 1
  weak : h.weak.length ≤ n
  tags : h.fins.length + h.queue.length ≤ n
theorem Fine.up {n : Nat} {h : Hp} (f : Fine n h) : Fine (n + 1) h := ⟨f.ok, by have := f.next; omega, by have := f.weak; omega, by have := f.tags; omega⟩
theorem filter_len {α : Type} (p : α → Bool) (l : List α) : (l.filter p).length + (l.filter fun x => !p x).length = l.length := by
  induction l with
  | nil => rfl
  | cons a l ih => cases h : p a <;> simp [h] <;> omega
theorem f_collect {n : Nat} {h : Hp} (f : Fine n h) (minor : Bool) : Fine n (collectE h minor).1 := by
  refine ⟨o_collect f.ok (lv_E f.ok minor), f.next, by simpa [collectE, collectBy] using f.weak, ?_⟩
  have := filter_len (deadB h minor fun x => (firstE h minor).contains x) h.fins
  have := f.tags
  simp only [collectE, collectBy, List.length_append, List.length_map]
  omega
theorem f_make {n : Nat} {h : Hp} (f : Fine n h) (a : Int) : Fine (n + 1) (makeOf h a).1 := by
  refine ⟨o_make f.ok a, ?_, ?_, ?_⟩ <;> rw [makeOf] <;> have h1 := f.next <;> have h2 := f.weak <;> have h3 := f.tags <;> (repeat' split) <;> dsimp only <;> omega
theorem f_set {n : Nat} {h : Hp} (f : Fine n h) (x s z : Int) : Fine n (setOf h x s z).1 := by
  refine ⟨o_set f.ok x s z, ?_, ?_, ?_⟩ <;> rw [setOf] <;> have h1 := f.next <;> have h2 := f.weak <;> have h3 := f.tags <;> split <;> (try rw [updO]) <;> (try split) <;> dsimp only <;> omega
theorem f_roots {n : Nat} {h : Hp} (f : Fine n h) (l : List Int) : Fine n (rootsOf h l).1 := by
  refine ⟨o_roots f.ok l, ?_, ?_, ?_⟩ <;> rw [rootsOf] <;> have h1 := f.next <;> have h2 := f.weak <;> have h3 := f.tags <;> (repeat' split) <;> dsimp only <;> omega
theorem f_weak {n : Nat} {h : Hp} (f : Fine n h) (x t : Int) : Fine (n + 1) (weakOf h x t).1 := by
  refine ⟨o_weak f.ok x t, ?_, ?_, ?_⟩ <;> rw [weakOf] <;> have h1 := f.next <;> have h2 := f.weak <;> have h3 := f.tags <;> split <;> dsimp only <;> (try rw [List.length_append, List.length_singleton]) <;> omega
theorem f_final {n : Nat} {h : Hp} (f : Fine n h) (x t : Int) : Fine (n + 1) (finalOf h x t).1 := by
  refine ⟨o_final f.ok x t, ?_, ?_, ?_⟩ <;> rw [finalOf] <;> have h1 := f.next <;> have h2 := f.weak <;> have h3 := f.tags <;> split <;> dsimp only <;> (try rw [List.length_append, List.length_singleton]) <;> omega
theorem f_take {n : Nat} {h : Hp} (f : Fine n h) : Fine n (takeOf h).1 := by
  refine ⟨o_take f.ok, ?_, ?_, ?_⟩ <;> rw [takeOf] <;> have h1 := f.next <;> have h2 := f.weak <;> have h3 := f.tags <;> split <;> dsimp only <;> (try rename_i e; rw [e, List.length_cons] at h3) <;> omega
theorem f_do {n : Nat} {h : Hp} (f : Fine n h) (d : Hd) : Fine (n + 1) (doE h d).1 := by
  rw [doE]
  repeat' split
  · exact f_make f _
  · exact (f_set f _ _ _).up
  · exact (f_roots f _).up
  · exact (f_collect f _).up
  · exact (f_collect f _).up
  · exact f_weak f _ _
  · exact f_final f _ _
  · exact (f_take f).up
  · exact f.up
theorem f_born {a b : Int} (h1 : 8 ≤ a ∧ a ≤ 1000) (h2 : 8 ≤ b ∧ b ≤ 1000) : Fine 0 (bornOf a b) := ⟨o_born h1 h2, by simp [bornOf], by simp [bornOf], by simp [bornOf]⟩

/-! ### Majors without finals -/
theorem collect_fins_nil {h : Hp} (hf : h.fins = []) (minor : Bool) : (collectE h minor).1.fins = [] := by simp [collectE, collectBy, hf]
theorem live_RR {h : Hp} {fst lv : Int → Bool} (v : Lv h false fst lv) (hf : h.fins = []) (x : Int) : lv x = true ↔ RR h x := by
  rw [v.live]
  have : fromOf h false ++ againOf h false fst = h.roots := by simp [fromOf, againOf, hf]
  rw [this]; rfl
theorem major_all {h : Hp} (k : Ok h) (hf : h.fins = []) (x : Int) (hx : there (collectE h false).1 x = true) : RR (collectE h false).1 x := by
  have v := lv_E k false
  refine (RR_collect k v x).2 ?_
  have : stays h false (fun x => (liveE h false).contains x) x = true := by rw [← there_stays k]; exact hx
  rw [stays] at this
  refine (live_RR v hf x).1 ?_
  cases h1 : inL h.young x <;> cases h2 : inL h.old x <;> simp_all
theorem filter_all {l : List Ob} {p : Int → Bool} (h : ∀ o ∈ l, p o.handle = true) : (l.filter fun o => p o.handle) = l := List.filter_eq_self.2 h
theorem major_none {h : Hp} (k : Ok h) (hf : h.fins = []) (ha : ∀ x, there h x = true → RR h x) : (collectE h false).2 = 0 := by
  have v := lv_E k false
  have hl : ∀ o ∈ obs h, (liveE h false).contains o.handle = true := fun o ho => (live_RR v hf _).2 (ha _ (by rw [there_obs, inL_mem]; exact List.mem_map_of_mem ho))
  have h1 : keepYoung h (fun x => (liveE h false).contains x) = h.young := by
    rw [keepYoung]; exact filter_all (p := fun x => (liveE h false).contains x) fun o ho => hl o (by simp [obs, ho])
  have h2 : keepOld h false (fun x => (liveE h false).contains x) = h.old := by
    rw [keepOld, if_neg (by simp)]; exact filter_all (p := fun x => (liveE h false).contains x) fun o ho => hl o (by simp [obs, ho])
  show ((h.young.length : Int) + h.old.length) - (keepYoung h fun x => (liveE h false).contains x).length - (keepOld h false fun x => (liveE h false).contains x).length = 0
  rw [h1, h2]; omega
theorem all_live {h : Hp} (k : Ok h) (ha : ∀ x, there h x = true → RR h x) : allOf h = liveOf h := by
  rw [← live_eq k k.dist fun x => ?_]
  · rfl
  · rw [← inL_mem, ← there_obs]
    exact ⟨ha x, RR.there⟩
/-- Behind two Majors without finals. -/
theorem major_law {h : Hp} (k : Ok h) (hf : h.fins = []) : Ok (collectE (collectE h false).1 false).1 ∧ (collectE (collectE h false).1 false).2 = 0 ∧ allOf (collectE (collectE h false).1 false).1 = liveOf (collectE (collectE h false).1 false).1 := by
  have k1 := o_collect k (lv_E k false)
  have hf1 := collect_fins_nil hf false
  have k2 := o_collect (h := (collectE h false).1) k1 (lv_E (h := (collectE h false).1) k1 false)
  exact ⟨k2, major_none k1 hf1 (major_all k hf), all_live k2 (major_all (h := (collectE h false).1) k1 hf1)⟩
/-- Behind two Majors without roots all is gone. -/
theorem bare_fins {h : Hp} (hr : h.roots = []) (k : Ok h) : (collectE h false).1.fins = [] ∧ (collectE h false).1.roots = [] := by
  refine ⟨?_, hr⟩
  obtain ⟨h1, _, _⟩ := first_spec k false
  show h.fins.filter _ = []
  rw [List.filter_eq_nil_iff]
  intro f hf
  have : ¬ f.1 ∈ firstE h false := fun hm => by
    have := (h1 f.1).1 hm
    exact this.closed (Q := fun _ => False) (by simp [fromOf, hr]) (by simp)
  simp [deadB, this]
theorem bare_none {h : Hp} (hr : h.roots = []) (hf : h.fins = []) (k : Ok h) : allOf (collectE h false).1 = [] := by
  have v := lv_E k false
  have hno : ∀ x, there (collectE h false).1 x = false := fun x => by
    cases e : there (collectE h false).1 x with
    | false => rfl
    | true =>
      have := major_all k hf x e
      exact (this.closed (Q := fun _ => False) (by show ∀ y ∈ h.roots, _; simp [hr]) (by simp)).elim
  have : obs (collectE h false).1 = [] := by
    cases e : obs (collectE h false).1 with
    | nil => rfl
    | cons o l =>
      have := hno o.handle
      rw [there_obs, e, inL_cons] at this
      simp at this
  rw [allOf, this]; simp
theorem bare_law {h : Hp} (hr : h.roots = []) (k : Ok h) : allOf (collectE (collectE h false).1 false).1 = [] := by
  obtain ⟨h1, h2⟩ := bare_fins hr k
  exact bare_none h2 h1 (o_collect k (lv_E k false))

/-! ### Weak entries -/
theorem weak_law {h : Hp} (k : Ok h) (minor : Bool) : (collectE h minor).1.weak.length = h.weak.length ∧ ∀ i, (hi : i < h.weak.length) → ∃ w, (collectE h minor).1.weak[i]? = some w ∧ w.2 = h.weak[i].2 ∧ (w.1 = 0 ∨ w.1 = h.weak[i].1) ∧
    (¬ h.weak[i].1 = 0 → ((askedOf (collectE h minor).1 h.weak[i].1 = 0) ↔ ¬ w.1 = 0)) := by
  have v := lv_E k minor
  refine ⟨by simp [collectE, collectBy], fun i hi => ?_⟩
  have e : (collectE h minor).1.weak[i]? = some (if goneB h minor (fun x => (liveE h minor).contains x) h.weak[i].1 = true then (0, h.weak[i].2) else h.weak[i]) := by
    simp only [collectE, collectBy, List.getElem?_map, List.getElem?_eq_getElem hi]; rfl
  refine ⟨_, e, ?_, ?_, fun hw => ?_⟩
  · split <;> rfl
  · split
    · exact .inl rfl
    · exact .inr rfl
  · have hth : there h h.weak[i].1 = true := (k.weak _ (List.getElem_mem hi)).resolve_left hw
    have hp := k.pos hth
    have hs := there_stays k minor (fun x => (firstE h minor).contains x) (fun x => (liveE h minor).contains x) h.weak[i].1
    have hs' : there (collectE h minor).1 h.weak[i].1 = stays h minor (fun x => (liveE h minor).contains x) h.weak[i].1 := hs
    have hg : goneB h minor (fun x => (liveE h minor).contains x) h.weak[i].1 = !there (collectE h minor).1 h.weak[i].1 := by
      rw [hs', goneB, hth, keep_in, keepY_in, stays]; rfl
    rw [hg, askedOf, if_neg (by omega)]
    cases there (collectE h minor).1 h.weak[i].1 <;> simp [hw]
/-- A final for each object. -/
def withFins (h : Hp) (l : List Int) : Hp := { h with fins := h.fins ++ l.map fun x => (x, 1000 + x) }
theorem final_one {h : Hp} {l : List Int} {x : Int} (hx : there h x = true) (k : Ok h) : finalOf (withFins h l) x (1000 + x) = (withFins h (l ++ [x]), 0) := by
  have hp := k.pos hx
  have ha : askedOf (withFins h l) x = 0 := by
    rw [askedOf, if_neg (by omega)]
    have : there (withFins h l) x = there h x := rfl
    rw [this, hx]; rfl
  rw [finalOf, if_neg (fun e => e ha)]
  show (({ withFins h l with fins := (h.fins ++ l.map fun x => (x, 1000 + x)) ++ [(x, 1000 + x)] } : Hp), (0 : Int)) = _
  rw [List.append_assoc]
  congr 1
  show _ = ({ h with fins := h.fins ++ (l ++ [x]).map fun x => (x, 1000 + x) } : Hp)
  rw [List.map_append]; rfl
theorem ok_withFins {h : Hp} (k : Ok h) {l : List Int} (hl : ∀ x ∈ l, there h x = true) : Ok (withFins h l) :=
  ⟨k.rooms, k.dist, k.small, k.next, k.roots, k.usedY, k.usedO, fun f hf => by
    rcases List.mem_append.1 hf with hf | hf
    · exact k.fins f hf
    · obtain ⟨x, hx, rfl⟩ := List.mem_map.1 hf
      exact hl x hx, k.weak⟩
theorem allOf_mem {h : Hp} {x : Int} : x ∈ allOf h ↔ there h x = true := by rw [allOf, (List.mergeSort_perm _ leI).mem_iff, there_obs, inL_mem]
theorem allOf_nodup {h : Hp} (k : Ok h) : (allOf h).Nodup := (List.mergeSort_perm _ leI).nodup_iff.2 k.dist
/-- Whether an object is dead, at a Major. -/
def deadX (h : Hp) (x : Int) : Bool := !(firstE h false).contains x
theorem deadX_iff {h : Hp} (k : Ok h) (x : Int) : deadX h x = false ↔ RR h x := by
  have h1 := (first_spec k false).1 x
  have e : fromOf h false = h.roots := by simp [fromOf]
  rw [e] at h1
  rw [deadX]
  simp only [Bool.not_eq_false', List.contains_iff_mem]
  exact h1
theorem queue_of {h : Hp} (hq : h.queue = []) (l : List Int) : (collectE (withFins h l) false).1.queue = (h.fins.filter fun f => deadX h f.1).map (·.2) ++ (l.filter (deadX h)).map fun x => 1000 + x := by
  have hd : ∀ f : Int × Int, deadB (withFins h l) false (fun x => (firstE (withFins h l) false).contains x) f = deadX h f.1 := fun f => by
    rw [deadB, deadX]; simp; rfl
  show (withFins h l).queue ++ ((withFins h l).fins.filter _).map (·.2) = _
  rw [show (withFins h l).queue = [] from hq, List.nil_append]
  have e : (deadB (withFins h l) false fun x => (firstE (withFins h l) false).contains x) = fun f => deadX h f.1 := funext hd
  rw [e]
  show ((h.fins ++ l.map fun x => (x, 1000 + x)).filter fun f : Int × Int => deadX h f.1).map (fun f : Int × Int => f.2) = _
  rw [List.filter_append, List.map_append, List.filter_map, List.map_map]
  rfl
theorem finals_law {h : Hp} (k : Ok h) (hq : h.queue = []) {Old : Int → Prop} (ho : ∀ f ∈ h.fins, Old f.2) {Q : List Int} (hQ : Q = (collectE (withFins h (allOf h)) false).1.queue) :
    (∀ i j, (hi : i < Q.length) → (hj : j < Q.length) → i < j → Q[i] = Q[j] → Old Q[i]) ∧ (∀ i x, (hi : i < Q.length) → x ∈ liveOf h → x = Q[i] - 1000 → Old Q[i]) ∧
    (allOf h).length - (liveOf h).length ≤ (Q.filter fun t => decide (1000 ≤ t)).length ∧ Q.length ≤ h.fins.length + (allOf h).length := by
  rw [queue_of hq] at hQ
  obtain ⟨T1, hT1⟩ : ∃ T1, T1 = (h.fins.filter fun f => deadX h f.1).map (·.2) := ⟨_, rfl⟩
  obtain ⟨T2, hT2⟩ : ∃ T2, T2 = ((allOf h).filter (deadX h)).map fun x => 1000 + x := ⟨_, rfl⟩
  rw [← hT1, ← hT2] at hQ
  have h1 : ∀ t ∈ T1, Old t := fun t ht => by
    rw [hT1] at ht
    obtain ⟨f, hf, rfl⟩ := List.mem_map.1 ht
    exact ho f (List.mem_filter.1 hf).1
  have h2 : ∀ t ∈ T2, ∃ x, t = 1000 + x ∧ there h x = true ∧ ¬ RR h x := fun t ht => by
    rw [hT2] at ht
    obtain ⟨x, hx, rfl⟩ := List.mem_map.1 ht
    obtain ⟨hx1, hx2⟩ := List.mem_filter.1 hx
    exact ⟨x, rfl, allOf_mem.1 hx1, fun hr => by rw [(deadX_iff k x).2 hr] at hx2; cases hx2⟩
  have hn : T2.Nodup := by
    rw [hT2]
    exact List.pairwise_map.2 (((allOf_nodup k).filter _).imp fun {a b} hab e => hab (by omega))
  subst hQ
  refine ⟨fun i j hi hj hij e => ?_, fun i x hi hx e => ?_, ?_, ?_⟩
  · by_cases hi1 : i < T1.length
    · rw [List.getElem_append_left hi1]; exact h1 _ (List.getElem_mem hi1)
    · rw [List.getElem_append_right (by omega), List.getElem_append_right (by omega)] at e
      simp only [List.length_append] at hi hj
      exact absurd e (List.pairwise_iff_getElem.1 hn (i - T1.length) (j - T1.length) (by omega) (by omega) (by omega))
  · by_cases hi1 : i < T1.length
    · rw [List.getElem_append_left hi1]; exact h1 _ (List.getElem_mem hi1)
    · rw [List.getElem_append_right (by omega)] at e
      have hi2 : i - T1.length < T2.length := by simp only [List.length_append] at hi; omega
      obtain ⟨y, hy1, hy2, hy3⟩ := h2 _ (List.getElem_mem hi2)
      rw [hy1] at e
      have : x = y := by omega
      exact absurd (liveOf_in k (this ▸ hx)) hy3
  · have hl : ((allOf h).filter fun x => !deadX h x) = liveOf h := live_filter k fun x => by
      rw [Bool.not_eq_true']; exact deadX_iff k x
    have hc := filter_len (deadX h) (allOf h)
    rw [hl] at hc
    have hf : T2.filter (fun t => decide (1000 ≤ t)) = T2 := List.filter_eq_self.2 fun t ht => by
      obtain ⟨x, rfl, hx, _⟩ := h2 t ht
      have := k.pos hx
      simp; omega
    have hlen : T2.length = ((allOf h).filter (deadX h)).length := by rw [hT2, List.length_map]
    rw [List.filter_append, List.length_append, hf]
    omega
  · rw [List.length_append, hT1, hT2, List.length_map, List.length_map]
    have := List.length_filter_le (fun f : Int × Int => deadX h f.1) h.fins
    have := List.length_filter_le (deadX h) (allOf h)
    omega
/-- Where a number goes, from the end. -/
def goesAt (out : List Int) (x : Int) : Nat → Nat
  | 0 => 0
  | k + 1 => if x < out.getD k 0 then goesAt out x k else k + 1
def putAt (out : List Int) (x : Int) : List Int := out.take (goesAt out x out.length) ++ x :: out.drop (goesAt out x out.length)
def ascend (l : List Int) : List Int := l.foldl putAt []
theorem goesAt_le (out : List Int) (x : Int) : ∀ k, goesAt out x k ≤ k
  | 0 => Nat.le_refl _
  | k + 1 => by rw [goesAt]; split; exact Nat.le_succ_of_le (goesAt_le out x k); exact Nat.le_refl _
theorem goesAt_up (out : List Int) (x : Int) : ∀ k, ∀ i, goesAt out x k ≤ i → i < k → x < out.getD i 0
  | 0, i, _, h => by omega
  | k + 1, i, h1, h2 => by
    rw [goesAt] at h1
    split at h1
    · rename_i hx
      by_cases e : i = k
      · subst e; exact hx
      · exact goesAt_up out x k i h1 (by omega)
    · omega
theorem goesAt_lo (out : List Int) (x : Int) : ∀ k, 0 < goesAt out x k → ¬ x < out.getD (goesAt out x k - 1) 0
  | 0, h => by simp [goesAt] at h
  | k + 1, h => by
    rw [goesAt] at h ⊢
    split
    · rename_i hx; rw [if_pos hx] at h; exact goesAt_lo out x k h
    · rename_i hx; simpa using hx
theorem putAt_perm (out : List Int) (x : Int) : (putAt out x).Perm (x :: out) := by
  rw [putAt]
  refine List.perm_middle.trans (.cons x ?_)
  rw [List.take_append_drop]
theorem putAt_sorted {out : List Int} (h : out.Pairwise fun a b => leI a b = true) (x : Int) : (putAt out x).Pairwise fun a b => leI a b = true := by
  have hle := goesAt_le out x out.length
  rw [List.pairwise_iff_getElem] at h
  have hlo : ∀ a ∈ out.take (goesAt out x out.length), a ≤ x := fun a ha => by
    obtain ⟨i, hi, rfl⟩ := List.mem_iff_getElem.1 ha
    rw [List.length_take] at hi
    rw [List.getElem_take]
    have hp := goesAt_lo out x out.length (by omega)
    rw [List.getD_eq_getElem?_getD, List.getElem?_eq_getElem (by omega), Option.getD_some] at hp
    by_cases e : i = goesAt out x out.length - 1
    · subst e; omega
    · have := h i (goesAt out x out.length - 1) (by omega) (by omega) (by omega)
      simp only [leI, decide_eq_true_eq] at this
      omega
  have hup : ∀ b ∈ out.drop (goesAt out x out.length), x ≤ b := fun b hb => by
    obtain ⟨i, hi, rfl⟩ := List.mem_iff_getElem.1 hb
    rw [List.length_drop] at hi
    rw [List.getElem_drop]
    have hp := goesAt_up out x out.length (goesAt out x out.length + i) (by omega) (by omega)
    rw [List.getD_eq_getElem?_getD, List.getElem?_eq_getElem (by omega), Option.getD_some] at hp
    omega
  rw [putAt, List.pairwise_append]
  have h' : out.Pairwise fun a b => leI a b = true := List.pairwise_iff_getElem.2 h
  refine ⟨h'.sublist (List.take_sublist _ _), List.pairwise_cons.2 ⟨fun b hb => by simp only [leI, decide_eq_true_eq]; exact hup b hb, h'.sublist (List.drop_sublist _ _)⟩, fun a ha b hb => ?_⟩
  have h1 := hlo a ha
  rcases List.mem_cons.1 hb with rfl | hb
  · simp only [leI, decide_eq_true_eq]; exact h1
  · have h2 := hup b hb
    simp only [leI, decide_eq_true_eq]; omega
theorem ascend_spec (l : List Int) : ∀ out : List Int, (out.Pairwise fun a b => leI a b = true) → (l.foldl putAt out).Perm (out ++ l) ∧ (l.foldl putAt out).Pairwise fun a b => leI a b = true := by
  induction l with
  | nil => exact fun out h => ⟨by simp, h⟩
  | cons x l ih =>
    intro out h
    obtain ⟨h1, h2⟩ := ih (putAt out x) (putAt_sorted h x)
    refine ⟨h1.trans ?_, h2⟩
    refine ((putAt_perm out x).append_right l).trans ?_
    exact List.perm_middle.symm
theorem ascend_eq (l : List Int) : ascend l = l.mergeSort leI := by
  obtain ⟨h1, h2⟩ := ascend_spec l [] .nil
  exact sorted_eq (by simpa [ascend] using h1.trans (by simpa using (List.mergeSort_perm l leI).symm)) h2 (List.pairwise_mergeSort leI_trans leI_total l)
theorem merged {P Q : Prop} (h : (Unit → P) → Q) (hp : P) : Q := h fun _ => hp
/-- The first that is so. -/
def ixF {α : Type} (p : α → Bool) (l : List α) : Int := if l.any p then (l.findIdx p : Int) else -1
theorem ixF_hit {α : Type} {p : α → Bool} {l : List α} {i : Nat} (hi : i < l.length) (hall : ∀ j, (h : j < i) → p (l[j]'(by omega)) = false) (hp : p l[i] = true) : ixF p l = i := by
  have h1 : l.any p = true := List.any_eq_true.2 ⟨_, List.getElem_mem hi, hp⟩
  have h2 : l.findIdx p = i := (List.findIdx_eq hi).2 ⟨hp, fun j hj => hall j hj⟩
  rw [ixF, if_pos h1, h2]
theorem ixF_miss {α : Type} {p : α → Bool} {l : List α} (hall : ∀ j, (h : j < l.length) → p l[j] = false) : ixF p l = -1 := by
  have h1 : ¬ l.any p = true := by
    rw [List.any_eq_true]
    rintro ⟨x, hx, hp⟩
    obtain ⟨i, hi, rfl⟩ := List.getElem_of_mem hx
    rw [hall i hi] at hp; cases hp
  rw [ixF, if_neg h1]
theorem ixF_ge {α : Type} {p : α → Bool} {l : List α} : (0 ≤ ixF p l) = (l.any p = true) := by
  unfold ixF
  by_cases h : l.any p = true
  · rw [if_pos h]; simp [h]
  · rw [if_neg h]; simp [h]
theorem ixF_none {α : Type} {p : α → Bool} {l : List α} (h : l.any p = false) : ixF p l = -1 := by rw [ixF, if_neg (by simp [h])]
theorem ixF_cons {α : Type} (p : α → Bool) (a : α) (l : List α) : ixF p (a :: l) = if p a = true then 0 else if l.any p = true then ixF p l + 1 else -1 := by
  unfold ixF
  rw [List.any_cons, List.findIdx_cons]
  cases p a <;> cases l.any p <;> simp
theorem take_map_succ {α β : Type} (f : α → β) {l : List α} {i : Nat} (h : i < l.length) : (l.take (i + 1)).map f = (l.take i).map f ++ [f l[i]] := by
  rw [List.take_add_one, List.getElem?_eq_getElem h, List.map_append]; rfl
theorem take_succ_at {α : Type} {l : List α} {i : Nat} (h : i < l.length) : l.take (i + 1) = l.take i ++ [l[i]] := by
  rw [List.take_add_one, List.getElem?_eq_getElem h]; rfl
def ixO (l : List Ob) (x : Int) : Int := ixF (fun o => decide (o.handle = x)) l
theorem ixO_none {l : List Ob} {x : Int} (h : inL l x = false) : ixO l x = -1 := ixF_none h
theorem inL_at {l : List Ob} {x : Int} (h : inL l x = true) : ∃ i, ∃ hi : i < l.length, ixO l x = i ∧ l[i].handle = x ∧ slotsL l x = l[i].slots ∧ (l.find? fun o => decide (o.handle = x)) = some l[i] ∧
    (l.takeWhile fun o => decide (o.handle ≠ x)) = l.take i ∧ ∀ f, updL l x f = l.set i (f l[i]) := by
  induction l with
  | nil => simp [inL] at h
  | cons o l ih =>
    rw [inL_cons] at h
    by_cases e : o.handle = x
    · refine ⟨0, by simp, by rw [ixO, ixF_cons]; simp [e], by simpa using e, by rw [slotsL_cons, if_pos e]; rfl, by simp [e], by simp [e], fun f => by simp [updL, e]⟩
    · have h' : inL l x = true := by simpa [e] using h
      obtain ⟨i, hi, h1, h2, h3, h4, h5, h6⟩ := ih h'
      have ha : (l.any fun o => decide (o.handle = x)) = true := h'
      rw [ixO] at h1
      refine ⟨i + 1, by simp; omega, by rw [ixO, ixF_cons, if_neg (by simpa using e), if_pos ha, h1]; rfl, by simpa using h2, by rw [slotsL_cons, if_neg e]; simpa using h3, by simp only [List.find?_cons]; simp [e, h4], ?_, fun f => ?_⟩
      · rw [List.takeWhile_cons, if_pos (by simpa using e), h5]; simp
      · rw [updL, if_neg e, h6]; simp
theorem dist_apart {h : Hp} (k : Dist (obs h)) {x : Int} (hy : inL h.young x = true) : inL h.old x = false := by
  cases e : inL h.old x with
  | false => rfl
  | true =>
    rw [Dist, obs, List.map_append, List.nodup_append] at k
    exact absurd rfl (k.2.2 x (inL_mem.1 hy) x (inL_mem.1 e))
theorem slotsOf_y {h : Hp} {x : Int} (hy : inL h.young x = true) : slotsOf h x = slotsL h.young x := by
  obtain ⟨i, hi, _, _, h1, h2, _⟩ := inL_at hy
  rw [slotsOf, obs, slotsL, List.find?_append, h2, h1]; rfl
theorem slotsOf_o {h : Hp} {x : Int} (hy : inL h.young x = false) : slotsOf h x = slotsL h.old x := by
  rw [slotsOf, obs, slotsL, List.find?_append]
  have : (h.young.find? fun o => decide (o.handle = x)) = none := by
    rw [List.find?_eq_none]
    intro o ho
    rw [inL, List.any_eq_false] at hy
    simpa using hy o ho
  rw [this]; rfl
/-- Where an object is: the space, the place. -/
def fdOf (h : Hp) (x : Int) : Int × Int × Bool := if inL h.young x = true then (0, ixO h.young x, true) else if inL h.old x = true then (1, ixO h.old x, true) else (0, 0, false)
theorem usedN_le {l : List Ob} {i : Nat} (hi : i < l.length) : l[i].slots.length ≤ usedN l := by
  induction l generalizing i with
  | nil => simp at hi
  | cons o l ih =>
    rw [usedN_cons]
    cases i with
    | zero => simp
    | succ i => have := ih (i := i) (by simpa using hi); simp only [List.getElem_cons_succ]; omega
theorem usedN_take (l : List Ob) (i : Nat) : usedN (l.take i) ≤ usedN l := usedN_sub (List.take_sublist i l)
theorem usedN_len {l : List Ob} (h : ∀ o ∈ l, 1 ≤ o.slots.length) : l.length ≤ usedN l := by
  induction l with
  | nil => simp
  | cons o l ih =>
    rw [usedN_cons, List.length_cons]
    have := h o (by simp)
    have := ih fun p hp => h p (by simp [hp])
    omega
theorem Ok.lens {h : Hp} (k : Ok h) : h.young.length ≤ 1000 ∧ h.old.length ≤ 1000 ∧ usedN h.young ≤ 1000 ∧ usedN h.old ≤ 1000 := by
  have h1 := usedN_len (l := h.young) fun o ho => (k.small o (by simp [obs, ho])).2.2.1
  have h2 := usedN_len (l := h.old) fun o ho => (k.small o (by simp [obs, ho])).2.2.1
  have := k.usedY
  have := k.usedO
  have := k.rooms
  omega
def snE (S : List Int) : D := sq (S.map fun x => .agg (.cons (.val (.int .i64 x)) (.cons (.val (.bool true)) .nil)))
def dSn (S : List Int) : D := .map true () (snE S)
@[simp high] theorem head_dSn (S : List Int) : isHead (dSn S) = true := by rw [dSn, isHead]
@[simp] theorem snE_nil : snE [] = .nil := rfl
theorem snE_cons (x : Int) (S : List Int) : snE (x :: S) = .cons (.agg (.cons (.val (.int .i64 x)) (.cons (.val (.bool true)) .nil))) (snE S) := rfl
@[simp] theorem snE_keys (S : List Int) : mkeysOk (.int .i64) (snE S) = True := by
  refine eq_true ?_
  induction S with
  | nil => trivial
  | cons e l ih => rw [snE_cons]; exact ⟨rfl, ih⟩
theorem snE_yes {S : List Int} {x : Int} (h : x ∈ S) : mfind (.int .i64 x) (snE S) = some (.val (.bool true)) := by
  induction S with
  | nil => cases h
  | cons e l ih =>
    rw [snE_cons]
    unfold mfind
    by_cases he : e = x
    · rw [if_pos (by rw [he])]
    · rw [if_neg (by simpa using he)]
      exact ih ((List.mem_cons.1 h).resolve_left fun e' => he e'.symm)
theorem snE_no {S : List Int} {x : Int} (h : ¬ x ∈ S) : mfind (.int .i64 x) (snE S) = none := by
  induction S with
  | nil => rfl
  | cons e l ih =>
    rw [List.mem_cons, not_or] at h
    rw [snE_cons]
    unfold mfind
    rw [if_neg (by simpa using fun e' => h.1 e'.symm)]
    exact ih h.2
theorem snE_put {S : List Int} {x : Int} (h : ¬ x ∈ S) : mput (.int .i64 x) (.val (.bool true)) (snE S) = snE (S ++ [x]) := by
  induction S with
  | nil => rfl
  | cons e l ih =>
    rw [List.mem_cons, not_or] at h
    rw [List.cons_append, snE_cons, snE_cons]
    unfold mput
    rw [if_neg (by simpa using fun e' => h.1 e'.symm), ih h.2]
/-- What is left to do, bounded. -/
theorem lft_le (os : List Ob) (S : List Int) : lftO os S ≤ usedN os := by
  induction os with
  | nil => simp [lftO, usedN]
  | cons o l ih =>
    rw [usedN_cons]
    simp only [lftO, List.map_cons, List.sum_cons] at ih ⊢
    split <;> omega
theorem usedN_obs (h : Hp) : usedN (obs h) = usedN h.young + usedN h.old := usedN_app _ _
def clr1 (x : Int) (w : Int × Int) : Int × Int := if w.1 = x then (0, w.2) else w
def clrS (D : List Int) (w : Int × Int) : Int × Int := if w.1 ∈ D then (0, w.2) else w
theorem clr_step (D : List Int) (x : Int) (W : List (Int × Int)) : (W.map (clrS D)).map (clr1 x) = W.map (clrS (D ++ [x])) := by
  rw [List.map_map]
  refine List.map_congr_left fun w _ => ?_
  simp only [Function.comp_apply, clrS, clr1, List.mem_append, List.mem_singleton]
  by_cases h1 : w.1 ∈ D
  · simp only [h1, if_true, true_or]; split <;> rfl
  · simp only [h1, if_false, false_or]
theorem clrS_nil (W : List (Int × Int)) : W.map (clrS []) = W := by
  have : clrS [] = id := funext fun w => by simp [clrS]
  rw [this, List.map_id]
/-- The first 'i' ones, mapped. -/
def upt {α : Type} (f : α → α) (l : List α) (i : Nat) : List α := (l.take i).map f ++ l.drop i
@[simp] theorem upt_len {α : Type} (f : α → α) (l : List α) (i : Nat) : (upt f l i).length = l.length := by
  simp only [upt, List.length_append, List.length_map, List.length_take, List.length_drop]; omega
theorem upt_zero {α : Type} (f : α → α) (l : List α) : upt f l 0 = l := by simp [upt]
theorem upt_all {α : Type} (f : α → α) {l : List α} {i : Nat} (h : l.length ≤ i) : upt f l i = l.map f := by rw [upt, List.take_of_length_le h, List.drop_of_length_le h, List.append_nil]
theorem upt_at {α : Type} {f : α → α} {l : List α} {i : Nat} (h : i < l.length) : (upt f l i)[i]'(by simpa using h) = l[i] := by
  have : (upt f l i)[i]? = some l[i] := by
    rw [upt, List.getElem?_append_right (by simp; omega), List.getElem?_drop, List.getElem?_eq_getElem (by simp; omega)]
    congr 2; simp; omega
  rw [List.getElem_eq_iff]; exact this
theorem upt_set {α : Type} {f : α → α} {l : List α} {i : Nat} (h : i < l.length) : (upt f l i).set i (f l[i]) = upt f l (i + 1) := by
  rw [upt, upt, List.set_append_right _ _ (by simp; omega), take_map_succ f h, List.append_assoc, List.drop_eq_getElem_cons h]
  congr 1
  have : i - ((l.take i).map f).length = 0 := by simp; omega
  rw [this]; rfl
theorem upt_skip {α : Type} {f : α → α} {l : List α} {i : Nat} (h : i < l.length) (e : f l[i] = l[i]) : upt f l (i + 1) = upt f l i := by
  rw [upt, upt, take_map_succ f h, List.append_assoc, List.drop_eq_getElem_cons h, e]; rfl
theorem RS_mem {sl : Int → List Int} {skip : Int → Bool} {l m : List Int} (h : ∀ z, z ∈ l ↔ z ∈ m) (x : Int) : RS sl skip l x ↔ RS sl skip m x :=
  ⟨fun hr => hr.mono fun z hz hs => .base ((h z).1 hz) hs, fun hr => hr.mono fun z hz hs => .base ((h z).2 hz) hs⟩
/-- What the program starts from, at a minor collection. -/
def fromP (h : Hp) : List Int := h.roots ++ (remembOf h).flatMap (slotsOf h)
theorem remembOf_mem {h : Hp} {x : Int} : x ∈ remembOf h ↔ ∃ o ∈ h.old, remB h o = true ∧ o.handle = x := by
  rw [remembOf, (List.mergeSort_perm _ leI).mem_iff]
  simp only [List.mem_map, List.mem_filter, and_assoc]
theorem fromP_mem {h : Hp} (k : Ok h) (z : Int) : z ∈ fromP h ↔ z ∈ fromOf h true := by
  rw [fromP, fromOf, if_pos rfl, List.mem_append, List.mem_append]
  refine or_congr Iff.rfl ?_
  rw [List.mem_flatMap, List.mem_flatten]
  constructor
  · rintro ⟨x, hx, hz⟩
    obtain ⟨o, ho, hr, rfl⟩ := remembOf_mem.1 hx
    have := slotsL_mem k.dist (o := o) (by simp [obs, ho])
    rw [slotsOf, this] at hz
    exact ⟨o.slots, List.mem_map.2 ⟨o, List.mem_filter.2 ⟨ho, hr⟩, rfl⟩, hz⟩
  · rintro ⟨s, hs, hz⟩
    obtain ⟨o, ho, rfl⟩ := List.mem_map.1 hs
    obtain ⟨ho, hr⟩ := List.mem_filter.1 ho
    have := slotsL_mem k.dist (o := o) (by simp [obs, ho])
    exact ⟨o.handle, remembOf_mem.2 ⟨o, ho, hr, rfl⟩, by rw [slotsOf, this]; exact hz⟩
theorem remembOf_old {h : Hp} (k : Ok h) {x : Int} (hx : x ∈ remembOf h) : inL h.young x = false ∧ inL h.old x = true := by
  obtain ⟨o, ho, hr, rfl⟩ := remembOf_mem.1 hx
  have h1 : inL h.old o.handle = true := inL_mem.2 (List.mem_map_of_mem ho)
  refine ⟨?_, h1⟩
  cases e : inL h.young o.handle with
  | false => rfl
  | true => rw [dist_apart k.dist e] at h1; cases h1
theorem slots8 {h : Hp} (k : Ok h) (x : Int) : (slotsOf h x).length ≤ 8 := by
  rw [slotsOf, slotsL]
  split
  · rename_i o ho
    exact (k.small o (List.mem_of_find?_eq_some ho)).2.2.2.1
  · simp
theorem flat8 {h : Hp} (k : Ok h) (l : List Int) : (l.flatMap (slotsOf h)).length ≤ 8 * l.length := by
  induction l with
  | nil => simp
  | cons x l ih =>
    rw [List.flatMap_cons, List.length_append, List.length_cons]
    have := slots8 k x
    omega
theorem ok_fq {h : Hp} (k : Ok h) {F : List (Int × Int)} (hF : ∀ f ∈ F, there h f.1 = true) (q : List Int) : Ok { h with fins := F, queue := q } :=
  ⟨k.rooms, k.dist, k.small, k.next, k.roots, k.usedY, k.usedO, hF, k.weak⟩
theorem keepO_eq (h : Hp) (minor : Bool) (S : List Int) : h.old.filter (fun o : Ob => decide (o.handle ∈ S) || minor) = keepOld h minor fun x => decide (x ∈ S) := by
  rw [keepOld]
  cases minor with
  | true => simp
  | false => simp
theorem gone_mem (l : List Ob) (p : Int → Bool) (x : Int) : x ∈ (l.filter fun o => !p o.handle).map (·.handle) ↔ inL l x = true ∧ p x = false := by
  rw [inL_mem]
  simp only [List.mem_map, List.mem_filter, Bool.not_eq_true']
  constructor
  · rintro ⟨o, ⟨h1, h2⟩, rfl⟩; exact ⟨⟨o, h1, rfl⟩, h2⟩
  · rintro ⟨⟨o, h1, rfl⟩, h2⟩; exact ⟨o, ⟨h1, h2⟩, rfl⟩
theorem clr_two (D1 D2 : List Int) (W : List (Int × Int)) : (W.map (clrS D1)).map (clrS D2) = W.map (clrS (D1 ++ D2)) := by
  rw [List.map_map]
  refine List.map_congr_left fun w _ => ?_
  simp only [Function.comp_apply, clrS, List.mem_append]
  by_cases h1 : w.1 ∈ D1
  · simp only [h1, if_true, true_or]; split <;> rfl
  · simp only [h1, if_false, false_or]
theorem clr_gone {h : Hp} (k : Dist (obs h)) (minor : Bool) (S : List Int) (W : List (Int × Int)) :
    (W.map (clrS ((h.old.filter fun o => !(decide (o.handle ∈ S) || minor)).map (·.handle)))).map (clrS ((h.young.filter fun o => !decide (o.handle ∈ S)).map (·.handle))) =
      W.map fun w => if goneB h minor (fun x => decide (x ∈ S)) w.1 = true then (0, w.2) else w := by
  rw [clr_two]
  refine List.map_congr_left fun w _ => ?_
  rw [clrS]
  have e : (w.1 ∈ (h.old.filter fun o => !(decide (o.handle ∈ S) || minor)).map (·.handle) ++ (h.young.filter fun o => !decide (o.handle ∈ S)).map (·.handle)) ↔ goneB h minor (fun x => decide (x ∈ S)) w.1 = true := by
    rw [List.mem_append, gone_mem h.old (fun x => decide (x ∈ S) || minor), gone_mem h.young (fun x => decide (x ∈ S)), goneB, keep_in, keepY_in, there]
    have hd : inL h.young w.1 = true → inL h.old w.1 = false := dist_apart k
    cases h1 : inL h.young w.1 <;> cases h2 : inL h.old w.1 <;> cases h3 : decide (w.1 ∈ S) <;> cases minor <;> simp_all
  by_cases h1 : goneB h minor (fun x => decide (x ∈ S)) w.1 = true
  · rw [if_pos (e.2 h1), if_pos h1]
  · rw [if_neg (fun h2 => h1 (e.1 h2)), if_neg h1]
theorem gone_count (h : Hp) (minor : Bool) (S : List Int) : ((h.old.filter fun o => !(decide (o.handle ∈ S) || minor)).length : Int) + (h.young.filter fun o => !decide (o.handle ∈ S)).length =
    (h.young.length + h.old.length : Int) - (keepYoung h fun x => decide (x ∈ S)).length - (keepOld h minor fun x => decide (x ∈ S)).length := by
  have h1 := filter_len (fun o : Ob => decide (o.handle ∈ S) || minor) h.old
  have h2 := filter_len (fun o : Ob => decide (o.handle ∈ S)) h.young
  rw [keepO_eq] at h1
  rw [keepYoung]
  omega
theorem keepOld_len (h : Hp) (minor : Bool) (lv : Int → Bool) : (keepOld h minor lv).length ≤ h.old.length ∧ usedN (keepOld h minor lv) ≤ usedN h.old := by
  rw [keepOld]
  split
  · exact ⟨Nat.le_refl _, Nat.le_refl _⟩
  · exact ⟨List.length_filter_le _ _, usedN_sub List.filter_sublist⟩
/-- A heap behind n deeds, with its objects' ages. -/
structure Fit (n : Nat) (h : Hp) : Prop where
  fine : Fine n h
  age : ∀ o ∈ obs h, o.age ≤ n
theorem Fit.up {n : Nat} {h : Hp} (f : Fit n h) : Fit (n + 1) h := ⟨f.fine.up, fun o ho => by have := f.age o ho; omega⟩
theorem age_collect {n : Nat} {h : Hp} (f : Fit n h) (minor : Bool) : Fit (n + 1) (collectE h minor).1 := by
  refine ⟨(f_collect f.fine minor).up, fun o ho => ?_⟩
  obtain ⟨a, b, h1, h2, h3, h4, h5, h6⟩ := collect_parts f.fine.ok minor (fun x => (firstE h minor).contains x) (fun x => (liveE h minor).contains x)
  have hk : ∀ p ∈ keepYoung h (fun x => (liveE h minor).contains x), p ∈ obs h := fun p hp => by simp [obs, (List.mem_filter.1 hp).1]
  rw [collectE, obs, h1, h2] at ho
  simp only [List.mem_append, List.mem_map] at ho
  rcases ho with ⟨p, hp, rfl⟩ | ho | ⟨p, hp, rfl⟩
  · have := f.age p (hk p (h5.subset hp)); simp only [older]; omega
  · have : o ∈ obs h := by
      rw [keepOld] at ho
      split at ho
      · simp [obs, ho]
      · simp [obs, (List.mem_filter.1 ho).1]
    have := f.age o this; omega
  · have := f.age p (hk p (h4.subset hp)); simp only [older]; omega
theorem age_upd {n : Nat} {h : Hp} (f : Fit n h) (x : Int) {g : Ob → Ob} (hg : ∀ o, (g o).age = o.age) : ∀ o ∈ obs (updO h x g), o.age ≤ n := fun o ho => by
  have hu : ∀ l : List Ob, o ∈ updL l x g → ∃ p ∈ l, p.age = o.age := fun l hl => by
    rcases updL_mem hl with hl | ⟨p, hp, _, rfl⟩
    · exact ⟨o, hl, rfl⟩
    · exact ⟨p, hp, (hg p).symm⟩
  have : ∃ p ∈ obs h, p.age = o.age := by
    rw [updO] at ho
    split at ho <;> simp only [obs, List.mem_append] at ho ⊢ <;> rcases ho with ho | ho
    · obtain ⟨p, hp, e⟩ := hu _ ho; exact ⟨p, .inl hp, e⟩
    · exact ⟨o, .inr ho, rfl⟩
    · exact ⟨o, .inl ho, rfl⟩
    · obtain ⟨p, hp, e⟩ := hu _ ho; exact ⟨p, .inr hp, e⟩
  obtain ⟨p, hp, e⟩ := this
  have := f.age p hp
  omega
theorem fit_do {n : Nat} {h : Hp} (f : Fit n h) (d : Hd) : Fit (n + 1) (doE h d).1 := by
  rw [doE]
  repeat' split
  · refine ⟨f_make f.fine _, fun o ho => ?_⟩
    rw [makeOf] at ho
    have hf : ∀ o ∈ obs h, o.age ≤ ((n + 1 : Nat) : Int) := f.up.age
    repeat' split at ho
    · exact hf o ho
    · exact hf o ho
    · simp only [obs, List.mem_append, List.mem_singleton] at ho
      rcases ho with (ho | ho) | ho
      · exact hf o (by simp [obs, ho])
      · subst ho; simp only []; omega
      · exact hf o (by simp [obs, ho])
  · refine ⟨(f_set f.fine _ _ _).up, fun o ho => ?_⟩
    rw [setOf] at ho
    split at ho
    · exact f.up.age o ho
    · have := age_upd f d.a (g := fun o => { o with slots := o.slots.set d.b.toNat d.c }) (fun _ => rfl) o ho
      omega
  · refine ⟨(f_roots f.fine _).up, fun o ho => ?_⟩
    rw [rootsOf] at ho
    repeat' split at ho
    all_goals exact f.up.age o ho
  · exact age_collect f _
  · exact age_collect f _
  · refine ⟨f_weak f.fine _ _, fun o ho => ?_⟩
    rw [weakOf] at ho
    split at ho <;> exact f.up.age o ho
  · refine ⟨f_final f.fine _ _, fun o ho => ?_⟩
    rw [finalOf] at ho
    split at ho <;> exact f.up.age o ho
  · refine ⟨(f_take f.fine).up, fun o ho => ?_⟩
    rw [takeOf] at ho
    split at ho <;> exact f.up.age o ho
  · exact f.up
theorem fit_born {a b : Int} (h1 : 8 ≤ a ∧ a ≤ 1000) (h2 : 8 ≤ b ∧ b ≤ 1000) : Fit 0 (bornOf a b) := ⟨f_born h1 h2, by simp [bornOf, obs]⟩
abbrev avInt (n : Int) : AV := .val (.int .i64 n)
abbrev avBool (b : Bool) : AV := .val (.bool b)
abbrev avTwo (a : AV) (e : Int) : AV := .tup (.cons a (.cons (avInt e) .nil))
abbrev two (x : Int × Int) : AV := avTwo (avInt x.1) x.2
abbrev avNil : AV := .val (.pointer none)
theorem freeze_sq (l : List D) : (sq l).freeze = sq (l.map T.freeze) := by
  induction l with
  | nil => rfl
  | cons a l ih => simp [sq, T.freeze, ih]
@[simp] theorem freeze_ints (l : List Int) : (dInts l).freeze = dInts l := by
  rw [dInts, freeze_sq, List.map_map]; rfl
@[simp] theorem dNil_ints : dInts [] = .nil := rfl
theorem ints_mid (l : List Int) (lo n : Nat) : (dInts l).mid lo n = dInts ((l.drop lo).take n) := by simp only [dInts, sq_mid, ← List.map_drop, ← List.map_take]

/-- A pair of numbers. -/
def dEn (p : Int × Int) : D := .agg (.cons (.val (.int .i64 p.1)) (.cons (.val (.int .i64 p.2)) .nil))
def dEns (l : List (Int × Int)) : D := sq (l.map dEn)
@[simp] theorem dEns_len (l : List (Int × Int)) : (dEns l).len = l.length := by simp [dEns]
@[simp] theorem dEns_free (l : List (Int × Int)) : (dEns l).free = true := sq_free fun x hx => by obtain ⟨n, _, rfl⟩ := List.mem_map.1 hx; simp [dEn]
theorem dEns_nth {l : List (Int × Int)} {i : Nat} (h : i < l.length) : (dEns l).nth i = .agg (.cons (.val (.int .i64 l[i].1)) (.cons (.val (.int .i64 l[i].2)) .nil)) := by
  rw [dEns, sq_nth_lt (by simpa using h)]; simp; rfl
theorem dEns_set (l : List (Int × Int)) (i : Nat) (x y : Int) : (dEns l).setN i (.agg (.cons (.val (.int .i64 x)) (.cons (.val (.int .i64 y)) .nil))) = dEns (l.set i (x, y)) := by
  simp only [dEns, sq_setN, List.map_set]; rfl
theorem dEns_push (l : List (Int × Int)) (x y : Int) : (dEns l).app (.cons (.agg (.cons (.val (.int .i64 x)) (.cons (.val (.int .i64 y)) .nil))) .nil) = dEns (l ++ [(x, y)]) := by
  simp only [dEns, List.map_append, ← sq_app]; rfl
@[simp] theorem dEns_mid_all (l : List (Int × Int)) : (dEns l).mid 0 l.length = dEns l := sq_mid_all _ _ (by simp)
theorem dEns_mid1 (l : List (Int × Int)) (x : Int × Int) : (dEns (l ++ [x])).mid 0 (l.length + 1) = dEns (l ++ [x]) := sq_mid_all _ _ (by simp)
@[simp] theorem freeze_ens (l : List (Int × Int)) : (dEns l).freeze = dEns l := by
  rw [dEns, freeze_sq, List.map_map]; congr 1
@[simp] theorem dNil_ens : dEns [] = .nil := rfl

/-- An object whose slots are its own (or not); one whose slots have gone elsewhere. -/
def dOb (o : Bool) (x : Ob) : D := .agg (.cons (.val (.int .i64 x.handle)) (.cons (.val (.int .i64 x.age)) (.cons (.sl o () 1 (dInts x.slots)) .nil)))
def dObJ (x : Ob) : D := .agg (.cons (.val (.int .i64 x.handle)) (.cons (.val (.int .i64 x.age)) (.cons (.junk ()) .nil)))
def dObs (o : Bool) (l : List Ob) : D := sq (l.map (dOb o))
/-- Objects, the first 'n' of which have given their slots away. -/
def dObsJ (n : Nat) (l : List Ob) : D := sq (l.mapIdx fun i x => if i < n then dObJ x else dOb true x)
/-- Objects, the first 'n' of which have slots of their own. -/
def dObsN (n : Nat) (l : List Ob) : D := sq (l.mapIdx fun i x => dOb (decide (i < n)) x)
@[simp] theorem dObs_len (o : Bool) (l : List Ob) : (dObs o l).len = l.length := by simp [dObs]
@[simp] theorem dObsJ_len (n : Nat) (l : List Ob) : (dObsJ n l).len = l.length := by simp [dObsJ]
@[simp] theorem dObsN_len (n : Nat) (l : List Ob) : (dObsN n l).len = l.length := by simp [dObsN]
@[simp] theorem dObs_free (l : List Ob) : (dObs false l).free = true := sq_free fun x hx => by obtain ⟨n, _, rfl⟩ := List.mem_map.1 hx; simp [dOb]
theorem dObs_nth {o : Bool} {l : List Ob} {i : Nat} (h : i < l.length) : (dObs o l).nth i = .agg (.cons (.val (.int .i64 l[i].handle)) (.cons (.val (.int .i64 l[i].age)) (.cons (.sl o () 1 (dInts l[i].slots)) .nil))) := by
  rw [dObs, sq_nth_lt (by simpa using h)]; simp; rfl
theorem dObs_set (o : Bool) (l : List Ob) (i : Nat) (h a : Int) (s : List Int) : (dObs o l).setN i (.agg (.cons (.val (.int .i64 h)) (.cons (.val (.int .i64 a)) (.cons (.sl o () 1 (dInts s)) .nil)))) = dObs o (l.set i ⟨h, a, s⟩) := by
  simp only [dObs, sq_setN, List.map_set]; rfl
theorem dObs_push (o : Bool) (l : List Ob) (h a : Int) (s : List Int) : (dObs o l).app (.cons (.agg (.cons (.val (.int .i64 h)) (.cons (.val (.int .i64 a)) (.cons (.sl o () 1 (dInts s)) .nil)))) .nil) = dObs o (l ++ [⟨h, a, s⟩]) := by
  simp only [dObs, List.map_append, ← sq_app]; rfl
@[simp] theorem dObs_mid_all (o : Bool) (l : List Ob) : (dObs o l).mid 0 l.length = dObs o l := sq_mid_all _ _ (by simp)
theorem dObs_mid1 (o : Bool) (l : List Ob) (x : Ob) : (dObs o (l ++ [x])).mid 0 (l.length + 1) = dObs o (l ++ [x]) := sq_mid_all _ _ (by simp)
theorem dObs_mid (o : Bool) (l : List Ob) (lo n : Nat) : (dObs o l).mid lo n = dObs o ((l.drop lo).take n) := by simp only [dObs, sq_mid, ← List.map_drop, ← List.map_take]
theorem freeze_obs (o : Bool) (l : List Ob) : (dObs o l).freeze = dObs false l := by
  rw [dObs, freeze_sq, dObs, List.map_map]
  congr 1
  exact List.map_congr_left fun r _ => by simp [dOb, T.freeze]
@[simp] theorem dNil_obs (o : Bool) : dObs o [] = .nil := rfl
theorem dObsJ_zero (l : List Ob) : dObsJ 0 l = dObs true l := by
  rw [dObsJ, dObs]; congr 1
  exact List.ext_getElem (by simp) fun j h1 h2 => by simp
theorem dObsN_zero (l : List Ob) : dObsN 0 l = dObs false l := by
  rw [dObsN, dObs]; congr 1
  exact List.ext_getElem (by simp) fun j h1 h2 => by simp
theorem dObsN_all (l : List Ob) : dObsN l.length l = dObs true l := by
  rw [dObsN, dObs]; congr 1
  exact List.ext_getElem (by simp) fun j h1 h2 => by simp at h1; simp [h1]
theorem dObsJ_nth {l : List Ob} {i : Nat} (h : i < l.length) : (dObsJ i l).nth i = .agg (.cons (.val (.int .i64 l[i].handle)) (.cons (.val (.int .i64 l[i].age)) (.cons (.sl true () 1 (dInts l[i].slots)) .nil))) := by
  rw [dObsJ, sq_nth_lt (by simpa using h)]; simp; rfl
theorem dObsJ_nth1 {l : List Ob} {i : Nat} (h : i < l.length) : (dObsJ (i + 1) l).nth i = .agg (.cons (.val (.int .i64 l[i].handle)) (.cons (.val (.int .i64 l[i].age)) (.cons (.junk ()) .nil))) := by
  rw [dObsJ, sq_nth_lt (by simpa using h)]; simp; rfl
theorem dObsN_nth {n : Nat} {l : List Ob} {i : Nat} (h : i < l.length) : (dObsN n l).nth i = .agg (.cons (.val (.int .i64 l[i].handle)) (.cons (.val (.int .i64 l[i].age)) (.cons (.sl (decide (i < n)) () 1 (dInts l[i].slots)) .nil))) := by
  rw [dObsN, sq_nth_lt (by simpa using h)]; simp; rfl
theorem dObsJ_step {l : List Ob} {i : Nat} (h : i < l.length) : (dObsJ i l).setN i (.agg (.cons (.val (.int .i64 l[i].handle)) (.cons (.val (.int .i64 l[i].age)) (.cons (.junk ()) .nil)))) = dObsJ (i + 1) l := by
  rw [dObsJ, sq_setN, dObsJ]; congr 1
  refine List.ext_getElem (by simp) fun j h1 h2 => ?_
  rw [List.getElem_set]
  by_cases e : i = j
  · subst e; simp [dObJ]
  · have e2 : (j < i + 1) = (j < i) := by rw [eq_iff_iff]; omega
    simp [e, e2]
theorem dObsN_step {l : List Ob} {i : Nat} (h : i < l.length) : (dObsN i l).setN i (.agg (.cons (.val (.int .i64 l[i].handle)) (.cons (.val (.int .i64 l[i].age)) (.cons (.sl true () 1 (dInts l[i].slots)) .nil)))) = dObsN (i + 1) l := by
  rw [dObsN, sq_setN, dObsN]; congr 1
  refine List.ext_getElem (by simp) fun j h1 h2 => ?_
  rw [List.getElem_set]
  by_cases e : i = j
  · subst e; simp [dOb]
  · have e2 : (j < i + 1) = (j < i) := by rw [eq_iff_iff]; omega
    simp [e, e2]

/-- The program's heap: rooms, spaces, the next handle, roots, weak entries, finals, the queue. -/
def dHb (o : Bool) (h : Hp) : D := .agg (.cons (.agg (.cons (.val (.int .i64 h.ry)) (.cons (.val (.int .i64 h.ro)) .nil))) (.cons (.agg (.cons (.sl o () 3 (dObs o h.young)) (.cons (.sl o () 3 (dObs o h.old)) .nil))) (.cons (.val (.int .i64 h.next))
  (.cons (.sl o () 1 (dInts h.roots)) (.cons (.sl o () 2 (dEns h.weak)) (.cons (.sl o () 2 (dEns h.fins)) (.cons (.sl o () 1 (dInts h.queue)) .nil)))))))
def dHp (h : Hp) : D := .box true () (dHb true h)
/-- The document's. -/
def eHb (o : Bool) (h : Hp) : D := .agg (.cons (.val (.bool true)) (.cons (.val (.int .i64 h.ry)) (.cons (.val (.int .i64 h.ro)) (.cons (.sl o () 3 (dObs o h.young)) (.cons (.sl o () 3 (dObs o h.old)) (.cons (.sl o () 1 (dInts h.roots))
  (.cons (.sl o () 2 (dEns h.weak)) (.cons (.sl o () 2 (dEns h.fins)) (.cons (.sl o () 1 (dInts h.queue)) (.cons (.val (.int .i64 h.next)) .nil))))))))))
def eHp (h : Hp) : D := .box true () (eHb true h)
abbrev avH (h : Hp) : AV := .iptr (dHb false h)
abbrev avE (h : Hp) : AV := .iptr (eHb false h)
@[simp high] theorem head_dHp (h : Hp) : isHead (dHp h) = true := by rw [dHp, isHead]
@[simp high] theorem head_eHp (h : Hp) : isHead (eHp h) = true := by rw [eHp, isHead]
theorem freeze_dHb (h : Hp) : (dHb true h).freeze = dHb false h := by simp only [dHb, T.freeze, freeze_obs, freeze_ints, freeze_ens]
theorem freeze_eHb (h : Hp) : (eHb true h).freeze = eHb false h := by simp only [eHb, T.freeze, freeze_obs, freeze_ints, freeze_ens]
theorem own_sq {l : List D} (h : ∀ x ∈ l, x.allOwn = true) : (sq l).allOwn = true := by
  induction l with
  | nil => rfl
  | cons a l ih => simp [sq, T.allOwn, h a (by simp), ih fun x hx => h x (by simp [hx])]
@[simp] theorem own_ints (l : List Int) : (dInts l).allOwn = true := own_sq fun x hx => by obtain ⟨n, _, rfl⟩ := List.mem_map.1 hx; rfl
theorem own_obs (l : List Ob) : (dObs true l).allOwn = true := own_sq fun x hx => by obtain ⟨c, _, rfl⟩ := List.mem_map.1 hx; simp [dOb, T.allOwn]
@[simp] theorem own_ens (l : List (Int × Int)) : (dEns l).allOwn = true := own_sq fun x hx => by obtain ⟨c, _, rfl⟩ := List.mem_map.1 hx; simp [dEn, T.allOwn]
@[simp] theorem own_dHp (h : Hp) : (dHp h).allOwn = true := by simp [dHp, dHb, T.allOwn, own_obs]
@[simp] theorem own_eHp (h : Hp) : (eHp h).allOwn = true := by simp [eHp, eHb, T.allOwn, own_obs]
theorem chillH {h : Hp} {t : AV} : (AV.cons (.ptr 0 [.d]) t).chilled (dHp h) = .cons (avH h) (t.chilled (dHp h)) := by
  rw [AV.chilled]; congr 1; rw [dHp, AV.chilled, freeze_dHb]
theorem chillE {h : Hp} {t : AV} : (AV.cons (.ptr 0 [.d]) t).chilled (eHp h) = .cons (avE h) (t.chilled (eHp h)) := by
  rw [AV.chilled]; congr 1; rw [eHp, AV.chilled, freeze_eHb]
theorem warmH {f : FuncId} {h : Hp} {Y Z : List D} {t t0 a a' : AV} (hm : Meets Try.prog f Y (.cons (avH h) t0) fun av X κ => av = a ∧ X = Z ∧ κ = []) (ht : t.chilled (dHp h) = t0) (ha : a.plain = true) (hZ : ∀ x ∈ Z, x.allOwn = true) (he : a.emb [] 1 = a') :
    Meets Try.prog f (dHp h :: Y) (.cons (.ptr 0 [.d]) t) fun av X κ => av = a' ∧ X = dHp h :: Z ∧ κ = [] := by
  have e : (AV.cons (.ptr 0 [.d]) t).chilled (dHp h) = .cons (avH h) t0 := by rw [chillH, ht]
  refine Meets.mono (Meets.warm (d0 := dHp h) (Y := Y) (t := .cons (.ptr 0 [.d]) t) (by rw [e]; exact hm) ?_) ?_
  · rintro av X κ ⟨rfl, rfl, rfl⟩
    exact ⟨ha, hZ, rfl⟩
  · rintro av X κ ⟨av0, X0, ⟨rfl, rfl, _⟩, rfl, rfl, rfl⟩
    exact ⟨he, rfl, rfl⟩
theorem warmE {f : FuncId} {h : Hp} {Y Z : List D} {t t0 a a' : AV} (hm : Meets Try.prog f Y (.cons (avE h) t0) fun av X κ => av = a ∧ X = Z ∧ κ = []) (ht : t.chilled (eHp h) = t0) (ha : a.plain = true) (hZ : ∀ x ∈ Z, x.allOwn = true) (he : a.emb [] 1 = a') :
    Meets Try.prog f (eHp h :: Y) (.cons (.ptr 0 [.d]) t) fun av X κ => av = a' ∧ X = eHp h :: Z ∧ κ = [] := by
  have e : (AV.cons (.ptr 0 [.d]) t).chilled (eHp h) = .cons (avE h) t0 := by rw [chillE, ht]
  refine Meets.mono (Meets.warm (d0 := eHp h) (Y := Y) (t := .cons (.ptr 0 [.d]) t) (by rw [e]; exact hm) ?_) ?_
  · rintro av X κ ⟨rfl, rfl, rfl⟩
    exact ⟨ha, hZ, rfl⟩
  · rintro av X κ ⟨av0, X0, ⟨rfl, rfl, _⟩, rfl, rfl, rfl⟩
    exact ⟨he, rfl, rfl⟩
/-- A list that is only read. -/
theorem warmL {f : FuncId} {z : Nat} {s : D} {Y Z : List D} {t t0 a a' : AV} (hm : Meets Try.prog f Y t0 fun av X κ => av = a ∧ X = Z ∧ κ = []) (ht : t.chilled (.sl true () z s) = t0) (ha : a.plain = true) (hZ : ∀ x ∈ Z, x.allOwn = true) (he : a.emb [] 1 = a') :
    Meets Try.prog f (.sl true () z s :: Y) t fun av X κ => av = a' ∧ X = .sl true () z s :: Z ∧ κ = [] := by
  refine Meets.mono (Meets.warm (Y := Y) (by rw [ht]; exact hm) ?_) ?_
  · rintro av X κ ⟨rfl, rfl, rfl⟩
    exact ⟨ha, hZ, rfl⟩
  · rintro av X κ ⟨av0, X0, ⟨rfl, rfl, _⟩, rfl, rfl, rfl⟩
    exact ⟨he, rfl, rfl⟩
@[simp] theorem sel5 : (∀ x : Nat, x < 5 → [0, 1, 2, 3, 4, 5][x]? = some x) = True := by
  refine eq_true fun x hx => ?_
  have : x = 0 ∨ x = 1 ∨ x = 2 ∨ x = 3 ∨ x = 4 := by omega
  rcases this with rfl | rfl | rfl | rfl | rfl <;> rfl
end Go.Proofs.Ytfdcfjjobdnofaa

/- What is asked of a heap that cannot change: where an object is. -/
namespace Go.Proofs.Ytfdcfjjobdnofaa
set_option linter.all false
open Go.Vc Go.Proofs
set_option linter.unusedSimpArgs false
set_option linter.unusedVariables false
set_option maxRecDepth 100000
set_option maxHeartbeats 4000000
attribute [local irreducible] CallW EqK

def dIB (x : Int) : D := .box true () (.val (.int .i64 x))
@[simp high] theorem head_dIB (x : Int) : isHead (dIB x) = true := by rw [dIB, isHead]
abbrev avOb (o : Ob) : AV := .agg (.cons (avInt o.handle) (.cons (avInt o.age) (.cons (.imm 1 (dInts o.slots) false) .nil)))

/- (*cabochon/heap.Heap).real -/
theorem real_ok (h : Hp) (hn : 0 < h.next) : Meets Try.prog 38 [] (.cons (avH h) .nil) fun av X κ => av = avBool true ∧ X = [] ∧ κ = [] := by
 refine fb Try.func38 Try.ntmps38 [.tmp 2] fun w0 I0 F0 hF => ?_
 repeat first|refine n1 ?_|((first|refine rg 0 [0] [0] [] ?_|refine rg 1 [0] [2] [(2, 5)] ?_);simp (maxSteps := 1000000) [hF, dHb, hn])
 (try refine nr ?_);(repeat first|refine nb_ ?_|refine nl_ ?_);refine endK.o [2] [] [] ?_;simp [hF, retK, covers, mpre]

/- (*cabochon/heap.Heap).find$1 -/
theorem find1_ok (o : Ob) (x : Int) : Meets Try.prog 77 [dIB x] (.cons (avOb o) (.cons (.ptr 0 [.d]) .nil)) fun av X κ => av = avBool (decide (o.handle = x)) ∧ X = [dIB x] ∧ κ = [] := by
 refine fb Try.func77 Try.ntmps77 [.tmp 3] fun w0 I0 F0 hF => ?_
 repeat first|refine n1 ?_|((first|refine rg 0 [0, 1] [1, 2] [] ?_|refine rg 1 [1, 2] [3] [] ?_);simp (maxSteps := 1000000) [hF, dIB])
 (try refine nr ?_);(repeat first|refine nb_ ?_|refine nl_ ?_);refine endK.o [3] [0] [] ?_;simp [hF, retK, covers, mpre, dIB]

/- slices.IndexFunc[[]cabochon/heap.object,cabochon/heap.object] -/
theorem indexOb_ok (ex : Bool) (l : List Ob) (x : Int) (hl : l.length ≤ 100000000) : Meets Try.prog 76 [dIB x]
  (.cons (.imm 3 (dObs false l) ex) (.cons (.fn 77 (.cons (.ptr 0 [.d]) .nil)) .nil)) fun av X κ => av = avInt (ixO l x) ∧ X = [dIB x] ∧ κ = [] := by
 refine fb Try.func76 Try.ntmps76 [.tmp 4] fun w0 I0 F0 hF => ?_
 repeat first|refine n1 ?_|refine n3 ?_|((first|refine rg 0 [0, 1] [0, 1] [] ?_|refine rg 1 [0, 1] [0, 1, 7, 8] [] ?_);simp (maxSteps := 1000000) [hF, dIB])
 refine VS.rounds (fun m st => ∃ (i : Nat), i + m = l.length ∧ (∀ j, (h : j < l.length) → j < i → decide (l[j].handle = x) = false) ∧ st = ⟨[(0, .imm 3 (dObs false l) ex), (1, .fn 77 (.cons (.ptr 0 [.d]) .nil)), (7, avInt l.length), (8, avInt i)], [dIB x], [], []⟩) ⟨l.length, 0, by omega, by omega, by simp [dIB]⟩ ?_
 rintro m st ⟨i, hi, hall, rfl⟩
 repeat first|refine n1 ?_|((first|refine rg 2 [0, 1, 7, 8] [0, 1, 7, 8, 9] [] ?_|refine nc ?_);simp (maxSteps := 1000000) [hF, dIB])
 refine ⟨fun hlt => ?_, fun hge => ?_⟩
 ·have hi' : i < l.length := by omega
  have hn := dObs_nth (o := false) hi'
  repeat first|refine n1 ?_|refine n2 ?_|refine n3 ?_|((first|refine rg 3 [0, 1, 7, 8] [0, 1, 5, 7, 8] [] ?_|refine rg 4 [0, 1, 5, 7, 8] [0, 1, 5, 7, 8, 16] [] ?_);simp (maxSteps := 1000000) [hF, dIB, hn, hi'])
  refine (find1_ok l[i] x).go [(0, [])] (by simp (maxSteps := 1000000) [hF, dIB]) ?_;rintro av X κ ⟨rfl, rfl, rfl⟩;simp (maxSteps := 1000000) [hF, dIB]
  cases hp : decide (l[i].handle = x) with
  | true =>
   have hr : ixO l x = i := ixF_hit hi' (fun j h => hall j (by omega) h) hp
   repeat first|refine n1 ?_|((first|refine rg 5 [5] [4] [] ?_|refine nc ?_);simp (maxSteps := 1000000) [hF, hp])
   (try refine nr ?_);(repeat first|refine nb_ ?_|refine nl_ ?_);refine endK.o [4] [0] [] ?_;simp [hF, retK, covers, mpre, dIB, hr]
  | false =>
   repeat first|refine n2 ?_|refine n4 ?_|refine n5 ?_|refine n6 ?_|((first|refine rg 6 [0, 1, 7, 8] [0, 1, 7, 8] [] ?_|refine nc ?_);simp (maxSteps := 1000000) [hF, hp])
   refine nextK.of [0, 1, 7, 8] [0] (m - 1) (by omega) (by simp [hF]) ?_
   refine ⟨i + 1, by omega, ?_, ?_⟩
   ·intro j hj hji
    rcases Nat.lt_or_ge j i with h' | h'
    ·exact hall j hj h'
    ·obtain rfl : j = i := by omega
     exact hp
   ·simp [dIB]
    exact IntWalk.i64_in _ (by omega)
 ·have hr : ixO l x = -1 := ixF_miss (fun j h => hall j h (by omega))
  repeat first|refine n1 ?_|refine n7 ?_|(refine rg 7 [] [4] [] ?_;simp (maxSteps := 1000000) [hF])
  (try refine nr ?_);(repeat first|refine nb_ ?_|refine nl_ ?_);refine endK.o [4] [0] [] ?_;simp [hF, retK, covers, mpre, dIB, hr]

abbrev avFd (r : Int × Int × Bool) : AV := .tup (.cons (avInt r.1) (.cons (avInt r.2.1) (.cons (avBool r.2.2) .nil)))
/- (*cabochon/heap.Heap).find -/
theorem find_ok (h : Hp) (k : Ok h) (x : Int) : Meets Try.prog 41 [] (.cons (avH h) (.cons (avInt x) .nil)) fun av X κ => av = avFd (fdOf h x) ∧ X = [] ∧ κ = [] := by
 obtain ⟨b1, b2, _, _⟩ := k.lens
 have w1 : IntKind.i64.wrap 1 = 1 := by decide
 have w2 : IntKind.i64.wrap 2 = 2 := by decide
 refine fb Try.func41 Try.ntmps41 [.tmp 4, .tmp 5, .tmp 6] fun w0 I0 F0 hF => ?_
 repeat first|refine n1 ?_|refine n3 ?_|((first|refine rg 0 [0, 1] [0, 3] [] ?_|refine rg 1 [0, 3] [3, 13, 14] [] ?_);simp (maxSteps := 1000000) [hF, dHb])
 refine VS.rounds (fun m st => ∃ (n : Nat), n + m = 2 ∧ (1 ≤ n → inL h.young x = false) ∧ (2 ≤ n → inL h.old x = false) ∧ st = ⟨[(3, .ptr 0 [.d]), (13, .agg (.cons (.imm 3 (dObs false h.young) false) (.cons (.imm 3 (dObs false h.old) false) .nil))), (14, avInt n)], [dIB x], [], []⟩) ⟨2, 0, by omega, by omega, by omega, by simp [dIB]⟩ ?_
 rintro m st ⟨n, hn, h1, h2, rfl⟩
 have hn3 : n = 0 ∨ n = 1 ∨ n = 2 := by omega
 rcases hn3 with rfl | rfl | rfl
 ·repeat first|refine n1 ?_|refine n2 ?_|refine n3 ?_|((first|refine rg 2 [3, 13, 14] [3, 13, 14, 15] [] ?_|refine rg 3 [3, 13, 14] [3, 7, 8, 13, 14] [] ?_|refine rg 4 [3, 7, 8, 13, 14] [3, 7, 9, 13, 14] [] ?_|refine nc ?_);simp (maxSteps := 1000000) [hF, dIB])
  cases hy : inL h.young x with
  | true =>
   obtain ⟨i, hi, hix, _⟩ := inL_at hy
   have hc : fdOf h x = (0, (i : Int), true) := by simp [fdOf, hy, hix]
   refine (indexOb_ok false h.young x (by omega)).go [(0, [])] (by simp (maxSteps := 1000000) [hF, dIB, hix]) ?_;rintro av X κ ⟨rfl, rfl, rfl⟩;simp (maxSteps := 1000000) [hF, dIB, hix]
   repeat first|refine n1 ?_|((first|refine rg 5 [3, 7, 9, 13, 14] [3, 7, 9, 13, 14, 22] [] ?_|refine rg 6 [7, 9] [4, 5, 6] [] ?_|refine nc ?_);simp (maxSteps := 1000000) [hF, hix])
   (try refine nr ?_);(repeat first|refine nb_ ?_|refine nl_ ?_);refine endK.o [4, 5, 6] [] [] ?_;simp [hF, retK, covers, mpre, hc]
  | false =>
   have hix := ixO_none hy
   refine (indexOb_ok false h.young x (by omega)).go [(0, [])] (by simp (maxSteps := 1000000) [hF, dIB, hix]) ?_;rintro av X κ ⟨rfl, rfl, rfl⟩;simp (maxSteps := 1000000) [hF, dIB, hix]
   repeat first|refine n1 ?_|refine n2 ?_|refine n4 ?_|refine n5 ?_|refine n6 ?_|((first|refine rg 5 [3, 7, 9, 13, 14] [3, 7, 9, 13, 14, 22] [] ?_|refine rg 7 [3, 13, 14] [3, 13, 14] [] ?_|refine nc ?_);simp (maxSteps := 1000000) [hF, hix])
   refine nextK.of [3, 13, 14] [0] (1) (by omega) (by simp [hF]) ?_
   exact ⟨1, by omega, fun _ => by simp [hy], by omega, by simp [dIB, w1]⟩
 ·have hy := h1 (by omega)
  repeat first|refine n1 ?_|refine n2 ?_|refine n3 ?_|((first|refine rg 2 [3, 13, 14] [3, 13, 14, 15] [] ?_|refine rg 3 [3, 13, 14] [3, 7, 8, 13, 14] [] ?_|refine rg 4 [3, 7, 8, 13, 14] [3, 7, 9, 13, 14] [] ?_|refine nc ?_);simp (maxSteps := 1000000) [hF, dIB])
  cases ho : inL h.old x with
  | true =>
   obtain ⟨i, hi, hix, _⟩ := inL_at ho
   have hc : fdOf h x = (1, (i : Int), true) := by simp [fdOf, hy, ho, hix]
   refine (indexOb_ok false h.old x (by omega)).go [(0, [])] (by simp (maxSteps := 1000000) [hF, dIB, hix]) ?_;rintro av X κ ⟨rfl, rfl, rfl⟩;simp (maxSteps := 1000000) [hF, dIB, hix]
   repeat first|refine n1 ?_|((first|refine rg 5 [3, 7, 9, 13, 14] [3, 7, 9, 13, 14, 22] [] ?_|refine rg 6 [7, 9] [4, 5, 6] [] ?_|refine nc ?_);simp (maxSteps := 1000000) [hF, hix])
   (try refine nr ?_);(repeat first|refine nb_ ?_|refine nl_ ?_);refine endK.o [4, 5, 6] [] [] ?_;simp [hF, retK, covers, mpre, hc]
  | false =>
   have hix := ixO_none ho
   refine (indexOb_ok false h.old x (by omega)).go [(0, [])] (by simp (maxSteps := 1000000) [hF, dIB, hix]) ?_;rintro av X κ ⟨rfl, rfl, rfl⟩;simp (maxSteps := 1000000) [hF, dIB, hix]
   repeat first|refine n1 ?_|refine n2 ?_|refine n4 ?_|refine n5 ?_|refine n6 ?_|((first|refine rg 5 [3, 7, 9, 13, 14] [3, 7, 9, 13, 14, 22] [] ?_|refine rg 7 [3, 13, 14] [3, 13, 14] [] ?_|refine nc ?_);simp (maxSteps := 1000000) [hF, hix])
   refine nextK.of [3, 13, 14] [0] (0) (by omega) (by simp [hF]) ?_
   exact ⟨2, by omega, fun _ => by simp [hy], fun _ => by simp [ho], by simp [dIB, w2]⟩
 ·have hc : fdOf h x = (0, 0, false) := by simp [fdOf, h1, h2]
  repeat first|refine n1 ?_|refine n7 ?_|((first|refine rg 2 [3, 13, 14] [3, 13, 14, 15] [] ?_|refine rg 8 [] [4, 5, 6] [] ?_|refine nc ?_);simp (maxSteps := 1000000) [hF])
  (try refine nr ?_);(repeat first|refine nb_ ?_|refine nl_ ?_);refine endK.o [4, 5, 6] [] [] ?_;simp [hF, retK, covers, mpre, hc]

/- (*cabochon/heap.Heap).has -/
theorem has_ok (h : Hp) (k : Ok h) (x : Int) : Meets Try.prog 48 [] (.cons (avH h) (.cons (avInt x) .nil)) fun av X κ => av = avBool (there h x) ∧ X = [] ∧ κ = [] := by
 have hc : (fdOf h x).2.2 = there h x := by
  unfold fdOf there
  cases inL h.young x <;> cases inL h.old x <;> rfl
 refine fb Try.func48 Try.ntmps48 [.tmp 4] fun w0 I0 F0 hF => ?_
 repeat first|refine n1 ?_|((first|refine rg 0 [0, 1] [0, 1] [] ?_|refine rg 1 [0, 1] [7] [] ?_);simp (maxSteps := 1000000) [hF])
 refine (find_ok h k x).go [] (by simp (maxSteps := 1000000) [hF]) ?_;rintro av X κ ⟨rfl, rfl, rfl⟩;simp (maxSteps := 1000000) [hF]
 repeat first|refine n1 ?_|(refine rg 2 [7] [4] [] ?_;simp (maxSteps := 1000000) [hF])
 (try refine nr ?_);(repeat first|refine nb_ ?_|refine nl_ ?_);refine endK.o [4] [] [] ?_;simp [hF, retK, covers, mpre, hc]

/- cabochon/heap.used -/
theorem used_ok (l : List Ob) (ex : Bool) (hl : l.length ≤ 100000) (hu : usedN l ≤ 100000) : Meets Try.prog 42 [] (.cons (.imm 3 (dObs false l) ex) .nil) fun av X κ => av = avInt (usedN l) ∧ X = [] ∧ κ = [] := by
 refine fb Try.func42 Try.ntmps42 [.tmp 2] fun w0 I0 F0 hF => ?_
 repeat first|refine n1 ?_|refine n3 ?_|((first|refine rg 0 [0] [0] [] ?_|refine rg 1 [0] [0, 3] [] ?_|refine rg 2 [0, 3] [3, 6, 7, 8] [] ?_);simp (maxSteps := 1000000) [hF])
 refine VS.rounds (fun m st => ∃ (i : Nat), i + m = l.length ∧ st = ⟨[(3, avInt (usedN (l.take i))), (6, .imm 3 (dObs false l) ex), (7, avInt l.length), (8, avInt i)], [], [], []⟩) ⟨l.length, 0, by omega, by simp⟩ ?_
 rintro m st ⟨i, hi, rfl⟩
 repeat first|refine n1 ?_|((first|refine rg 3 [3, 6, 7, 8] [3, 6, 7, 8, 9] [] ?_|refine nc ?_);simp (maxSteps := 1000000) [hF])
 refine ⟨fun hlt => ?_, fun hge => ?_⟩
 ·have hn := dObs_nth (o := false) hlt
  have h1 : usedN (l.take (i + 1)) = usedN (l.take i) + l[i].slots.length := by
   rw [List.take_add_one, List.getElem?_eq_getElem hlt, usedN_app]; simp [usedN]
  have h2 := usedN_take l (i + 1)
  have hw : IntKind.i64.wrap ((i : Int) + 1) = (i + 1 : Nat) := by rw [IntWalk.i64_in _ (by omega)]; rfl
  have hw2 : IntKind.i64.wrap ((usedN (l.take i) : Int) + l[i].slots.length) = (usedN (l.take (i + 1)) : Nat) := by rw [IntWalk.i64_in _ (by omega), h1]; rfl
  repeat first|refine n1 ?_|refine n2 ?_|refine n3 ?_|refine n4 ?_|refine n5 ?_|refine n6 ?_|((first|refine rg 4 [3, 6, 7, 8] [3, 5, 6, 7, 8] [] ?_|refine rg 5 [3, 5, 6, 7, 8] [3, 6, 7, 8] [] ?_|refine rg 6 [3, 6, 7, 8] [3, 6, 7, 8] [] ?_);simp (maxSteps := 1000000) [hF, hn, hlt, hw, hw2])
  refine nextK.of [3, 6, 7, 8] [] (m - 1) (by omega) (by simp [hF]) ?_
  exact ⟨i + 1, by omega, by simp⟩
 ·have hf : l.take i = l := List.take_of_length_le (by omega)
  repeat first|refine n1 ?_|refine n7 ?_|(refine rg 7 [3] [2] [] ?_;simp (maxSteps := 1000000) [hF, hf])
  (try refine nr ?_);(repeat first|refine nb_ ?_|refine nl_ ?_);refine endK.o [2] [] [] ?_;simp [hF, retK, covers, mpre, hf]
/-- A box of a heap that cannot change; one with a pointer in it. -/
def dHB (h : Hp) : D := .box true () (.box false () (dHb false h))
def dJB : D := .box true () (.junk ())
@[simp high] theorem head_dHB (h : Hp) : isHead (dHB h) = true := by rw [dHB, isHead]
@[simp high] theorem head_dJB : isHead dJB = true := by rw [dJB, isHead]
theorem find_c (h : Hp) (k : Ok h) (x : Int) : Meets Try.prog 41 [dHp h] (.cons (.ptr 0 [.d]) (.cons (avInt x) .nil)) fun av X κ => av = avFd (fdOf h x) ∧ X = [dHp h] ∧ κ = [] :=
 warmH (find_ok h k x) rfl rfl (by simp) rfl
theorem has_c (h : Hp) (k : Ok h) (x : Int) : Meets Try.prog 48 [dHp h] (.cons (.ptr 0 [.d]) (.cons (avInt x) .nil)) fun av X κ => av = avBool (there h x) ∧ X = [dHp h] ∧ κ = [] :=
 warmH (has_ok h k x) rfl rfl (by simp) rfl
theorem real_c (h : Hp) (hn : 0 < h.next) : Meets Try.prog 38 [dHp h] (.cons (.ptr 0 [.d]) .nil) fun av X κ => av = avBool true ∧ X = [dHp h] ∧ κ = [] :=
 warmH (real_ok h hn) rfl rfl (by simp) rfl
theorem used_c (l : List Ob) (ex : Bool) (hl : l.length ≤ 100000) (hu : usedN l ≤ 100000) : Meets Try.prog 42 [.sl true () 3 (dObs true l)] (.cons (.sub 0 [] 0 l.length ex) .nil) fun av X κ => av = avInt (usedN l) ∧ X = [.sl true () 3 (dObs true l)] ∧ κ = [] :=
 warmL (used_ok l ex hl hu) (by simp only [AV.chilled, dObs_mid_all, freeze_obs]) rfl (by simp) rfl

/- slices.IndexFunc[[]int,int] -/
theorem indexFunc_r1 (ex : Bool) (ls : List Int)  (hl : ls.length ≤ 100000000) (p : Int → Bool)
  (hg : ∀ i, (hi0 : i < ls.length) → Meets Try.prog 46 [] (.cons (avInt ls[i]) .nil) fun av X κ => av = avBool (p ls[i]) ∧ X = [] ∧ κ = []) :
  Meets Try.prog 80 [] (.cons (.imm 1 (dInts ls) ex) (.cons (.fn 46 .nil) .nil))
  fun av X κ => av = avInt (ixF p ls) ∧ X = [] ∧ κ = [] := by
 refine fb Try.func80 Try.ntmps80 [.tmp 4] fun w0 I0 F0 hF => ?_
 repeat first|refine n1 ?_|refine n3 ?_|((first|refine rg 0 [0, 1] [0, 1] [] ?_|refine rg 1 [0, 1] [0, 1, 7, 8] [] ?_);simp (maxSteps := 1000000) [hF])
 refine VS.rounds (fun m st => ∃ (i : Nat), i + m = ls.length ∧ (∀ j, (h : j < ls.length) → j < i → p ls[j] = false) ∧ st = ⟨[(0, .imm 1 (dInts ls) ex), (1, .fn 46 .nil), (7, avInt ls.length), (8, avInt i)], [], [], []⟩) ⟨ls.length, 0, by omega, by omega, by simp []⟩ ?_
 rintro m st ⟨i, hi, hall, rfl⟩
 repeat first|refine n1 ?_|((first|refine rg 2 [0, 1, 7, 8] [0, 1, 7, 8, 9] [] ?_|refine nc ?_);simp (maxSteps := 1000000) [hF])
 refine ⟨fun hlt => ?_, fun hge => ?_⟩
 ·have hi' : i < ls.length := by omega
  have hn := dInts_nth hi'
  repeat first|refine n1 ?_|refine n2 ?_|refine n3 ?_|((first|refine rg 3 [0, 1, 7, 8] [0, 1, 5, 7, 8] [] ?_|refine rg 4 [0, 1, 5, 7, 8] [0, 1, 5, 7, 8, 16] [] ?_);simp (maxSteps := 1000000) [hF, hn, hi'])
  refine (hg i hi').go [] (by simp (maxSteps := 1000000) [hF]) ?_;rintro av X κ ⟨rfl, rfl, rfl⟩;simp (maxSteps := 1000000) [hF]
  cases hp : p ls[i] with
  | true =>
   have hr : ixF p ls = i := ixF_hit hi' (fun j h => hall j (by omega) h) hp
   repeat first|refine n1 ?_|((first|refine rg 5 [5] [4] [] ?_|refine nc ?_);simp (maxSteps := 1000000) [hF, hp])
   (try refine nr ?_);(repeat first|refine nb_ ?_|refine nl_ ?_);refine endK.o [4] [] [] ?_;simp [hF, retK, covers, mpre, hr]
  | false =>
   repeat first|refine n2 ?_|refine n4 ?_|refine n5 ?_|refine n6 ?_|((first|refine rg 6 [0, 1, 7, 8] [0, 1, 7, 8] [] ?_|refine nc ?_);simp (maxSteps := 1000000) [hF, hp])
   refine nextK.of [0, 1, 7, 8] [] (m - 1) (by omega) (by simp [hF]) ?_
   refine ⟨i + 1, by omega, ?_, ?_⟩
   ·intro j hj hji
    rcases Nat.lt_or_ge j i with h' | h'
    ·exact hall j hj h'
    ·obtain rfl : j = i := by omega
     exact hp
   ·simp []
    exact IntWalk.i64_in _ (by omega)
 ·have hr : ixF p ls = -1 := ixF_miss (fun j h => hall j h (by omega))
  repeat first|refine n1 ?_|refine n7 ?_|(refine rg 7 [] [4] [] ?_;simp (maxSteps := 1000000) [hF])
  (try refine nr ?_);(repeat first|refine nb_ ?_|refine nl_ ?_);refine endK.o [4] [] [] ?_;simp [hF, retK, covers, mpre, hr]

/- slices.ContainsFunc[[]int,int] -/
theorem containsFunc_r1 (ex : Bool) (ls : List Int)  (hl : ls.length ≤ 100000000) (p : Int → Bool)
  (hg : ∀ i, (hi0 : i < ls.length) → Meets Try.prog 46 [] (.cons (avInt ls[i]) .nil) fun av X κ => av = avBool (p ls[i]) ∧ X = [] ∧ κ = []) :
  Meets Try.prog 45 [] (.cons (.imm 1 (dInts ls) ex) (.cons (.fn 46 .nil) .nil))
  fun av X κ => av = avBool (ls.any p) ∧ X = [] ∧ κ = [] := by
 refine fb Try.func45 Try.ntmps45 [.tmp 4] fun w0 I0 F0 hF => ?_
 repeat first|refine n1 ?_|((first|refine rg 0 [0, 1] [0, 1] [] ?_|refine rg 1 [0, 1] [4] [] ?_);simp (maxSteps := 1000000) [hF])
 refine (indexFunc_r1 ex ls  hl p hg).go [] (by simp (maxSteps := 1000000) [hF]) ?_;rintro av X κ ⟨rfl, rfl, rfl⟩;simp (maxSteps := 1000000) [hF]
 have h : decide ((0 : Int) ≤ ixF p ls) = ls.any p := by simp only [ixF_ge, Bool.decide_eq_true]
 (try refine nr ?_);(repeat first|refine nb_ ?_|refine nl_ ?_);refine endK.o [4] [] [] ?_;simp [hF, retK, covers, mpre, h]

/- slices.IndexFunc[[]int,int] -/
theorem indexFunc_r2 (ex : Bool) (ls : List Int) (h : Hp) (hl : ls.length ≤ 100000000) (p : Int → Bool)
  (hg : ∀ i, (hi0 : i < ls.length) → MeetsP Try.prog 47 [dHp h, dJB] [(1, [.d], .ptr 0 [.d])] (.cons (avInt ls[i]) (.cons (.ptr 1 [.d]) .nil)) fun av X κ => av = avBool (p ls[i]) ∧ X = [dHp h, dJB] ∧ κ = []) :
  MeetsP Try.prog 80 [dHp h, dJB] [(1, [.d], .ptr 0 [.d])] (.cons (.imm 1 (dInts ls) ex) (.cons (.fn 47 (.cons (.ptr 1 [.d]) .nil)) .nil))
  fun av X κ => av = avInt (ixF p ls) ∧ X = [dHp h, dJB] ∧ κ = [] := by
 refine fbP Try.func80 Try.ntmps80 [.tmp 4] fun w0 I0 F0 hF => ?_
 repeat first|refine n1 ?_|refine n3 ?_|((first|refine rg 0 [0, 1] [0, 1] [] ?_|refine rg 1 [0, 1] [0, 1, 7, 8] [] ?_);simp (maxSteps := 1000000) [hF, dJB, dHp])
 refine VS.rounds (fun m st => ∃ (i : Nat), i + m = ls.length ∧ (∀ j, (h : j < ls.length) → j < i → p ls[j] = false) ∧ st = ⟨[(0, .imm 1 (dInts ls) ex), (1, .fn 47 (.cons (.ptr 1 [.d]) .nil)), (7, avInt ls.length), (8, avInt i)], [dHp h, dJB], [], [(1, [.d], .ptr 0 [.d])]⟩) ⟨ls.length, 0, by omega, by omega, by simp [dJB, dHp]⟩ ?_
 rintro m st ⟨i, hi, hall, rfl⟩
 repeat first|refine n1 ?_|((first|refine rg 2 [0, 1, 7, 8] [0, 1, 7, 8, 9] [] ?_|refine nc ?_);simp (maxSteps := 1000000) [hF, dJB, dHp])
 refine ⟨fun hlt => ?_, fun hge => ?_⟩
 ·have hi' : i < ls.length := by omega
  have hn := dInts_nth hi'
  repeat first|refine n1 ?_|refine n2 ?_|refine n3 ?_|((first|refine rg 3 [0, 1, 7, 8] [0, 1, 5, 7, 8] [] ?_|refine rg 4 [0, 1, 5, 7, 8] [0, 1, 5, 7, 8, 16] [] ?_);simp (maxSteps := 1000000) [hF, hn, hi', dJB, dHp])
  refine (hg i hi').goP [(0, []), (1, [])] (by simp (maxSteps := 1000000) [hF, plsOk, dJB, dHp]) ?_;rintro av X κ ⟨rfl, rfl, rfl⟩;simp (maxSteps := 1000000) [hF, dJB, dHp]
  cases hp : p ls[i] with
  | true =>
   have hr : ixF p ls = i := ixF_hit hi' (fun j h => hall j (by omega) h) hp
   repeat first|refine n1 ?_|((first|refine rg 5 [5] [4] [] ?_|refine nc ?_);simp (maxSteps := 1000000) [hF, hp])
   (try refine nr ?_);(repeat first|refine nb_ ?_|refine nl_ ?_);refine endK.o [4] [0, 1] [] ?_;simp [hF, retK, covers, mpre, hr, dJB, dHp]
  | false =>
   repeat first|refine n2 ?_|refine n4 ?_|refine n5 ?_|refine n6 ?_|((first|refine rg 6 [0, 1, 7, 8] [0, 1, 7, 8] [] ?_|refine nc ?_);simp (maxSteps := 1000000) [hF, hp])
   refine nextK.of [0, 1, 7, 8] [0, 1] (m - 1) (by omega) (by simp [hF]) ?_
   refine ⟨i + 1, by omega, ?_, ?_⟩
   ·intro j hj hji
    rcases Nat.lt_or_ge j i with h' | h'
    ·exact hall j hj h'
    ·obtain rfl : j = i := by omega
     exact hp
   ·simp [dJB, dHp]
    exact IntWalk.i64_in _ (by omega)
 ·have hr : ixF p ls = -1 := ixF_miss (fun j h => hall j h (by omega))
  repeat first|refine n1 ?_|refine n7 ?_|(refine rg 7 [] [4] [] ?_;simp (maxSteps := 1000000) [hF])
  (try refine nr ?_);(repeat first|refine nb_ ?_|refine nl_ ?_);refine endK.o [4] [0, 1] [] ?_;simp [hF, retK, covers, mpre, hr, dJB, dHp]

/- slices.ContainsFunc[[]int,int] -/
theorem containsFunc_r2 (ex : Bool) (ls : List Int) (h : Hp) (hl : ls.length ≤ 100000000) (p : Int → Bool)
  (hg : ∀ i, (hi0 : i < ls.length) → MeetsP Try.prog 47 [dHp h, dJB] [(1, [.d], .ptr 0 [.d])] (.cons (avInt ls[i]) (.cons (.ptr 1 [.d]) .nil)) fun av X κ => av = avBool (p ls[i]) ∧ X = [dHp h, dJB] ∧ κ = []) :
  MeetsP Try.prog 45 [dHp h, dJB] [(1, [.d], .ptr 0 [.d])] (.cons (.imm 1 (dInts ls) ex) (.cons (.fn 47 (.cons (.ptr 1 [.d]) .nil)) .nil))
  fun av X κ => av = avBool (ls.any p) ∧ X = [dHp h, dJB] ∧ κ = [] := by
 refine fbP Try.func45 Try.ntmps45 [.tmp 4] fun w0 I0 F0 hF => ?_
 repeat first|refine n1 ?_|((first|refine rg 0 [0, 1] [0, 1] [] ?_|refine rg 1 [0, 1] [4] [] ?_);simp (maxSteps := 1000000) [hF, dJB, dHp])
 refine (indexFunc_r2 ex ls h hl p hg).goP [(0, []), (1, [])] (by simp (maxSteps := 1000000) [hF, plsOk, dJB, dHp]) ?_;rintro av X κ ⟨rfl, rfl, rfl⟩;simp (maxSteps := 1000000) [hF, dJB, dHp]
 have h : decide ((0 : Int) ≤ ixF p ls) = ls.any p := by simp only [ixF_ge, Bool.decide_eq_true]
 (try refine nr ?_);(repeat first|refine nb_ ?_|refine nl_ ?_);refine endK.o [4] [0, 1] [] ?_;simp [hF, retK, covers, mpre, h, dJB, dHp]

/- slices.IndexFunc[[]int,int] -/
theorem indexFunc_rm (ex : Bool) (ls : List Int) (h : Hp) (hl : ls.length ≤ 100000000) (p : Int → Bool)
  (hg : ∀ i, (hi0 : i < ls.length) → Meets Try.prog 69 [dHB h] (.cons (avInt ls[i]) (.cons (.ptr 0 [.d]) .nil)) fun av X κ => av = avBool (p ls[i]) ∧ X = [dHB h] ∧ κ = []) :
  Meets Try.prog 80 [dHB h] (.cons (.imm 1 (dInts ls) ex) (.cons (.fn 69 (.cons (.ptr 0 [.d]) .nil)) .nil))
  fun av X κ => av = avInt (ixF p ls) ∧ X = [dHB h] ∧ κ = [] := by
 refine fb Try.func80 Try.ntmps80 [.tmp 4] fun w0 I0 F0 hF => ?_
 repeat first|refine n1 ?_|refine n3 ?_|((first|refine rg 0 [0, 1] [0, 1] [] ?_|refine rg 1 [0, 1] [0, 1, 7, 8] [] ?_);simp (maxSteps := 1000000) [hF, dHB])
 refine VS.rounds (fun m st => ∃ (i : Nat), i + m = ls.length ∧ (∀ j, (h : j < ls.length) → j < i → p ls[j] = false) ∧ st = ⟨[(0, .imm 1 (dInts ls) ex), (1, .fn 69 (.cons (.ptr 0 [.d]) .nil)), (7, avInt ls.length), (8, avInt i)], [dHB h], [], []⟩) ⟨ls.length, 0, by omega, by omega, by simp [dHB]⟩ ?_
 rintro m st ⟨i, hi, hall, rfl⟩
 repeat first|refine n1 ?_|((first|refine rg 2 [0, 1, 7, 8] [0, 1, 7, 8, 9] [] ?_|refine nc ?_);simp (maxSteps := 1000000) [hF, dHB])
 refine ⟨fun hlt => ?_, fun hge => ?_⟩
 ·have hi' : i < ls.length := by omega
  have hn := dInts_nth hi'
  repeat first|refine n1 ?_|refine n2 ?_|refine n3 ?_|((first|refine rg 3 [0, 1, 7, 8] [0, 1, 5, 7, 8] [] ?_|refine rg 4 [0, 1, 5, 7, 8] [0, 1, 5, 7, 8, 16] [] ?_);simp (maxSteps := 1000000) [hF, hn, hi', dHB])
  refine (hg i hi').go [(0, [])] (by simp (maxSteps := 1000000) [hF, dHB]) ?_;rintro av X κ ⟨rfl, rfl, rfl⟩;simp (maxSteps := 1000000) [hF, dHB]
  cases hp : p ls[i] with
  | true =>
   have hr : ixF p ls = i := ixF_hit hi' (fun j h => hall j (by omega) h) hp
   repeat first|refine n1 ?_|((first|refine rg 5 [5] [4] [] ?_|refine nc ?_);simp (maxSteps := 1000000) [hF, hp])
   (try refine nr ?_);(repeat first|refine nb_ ?_|refine nl_ ?_);refine endK.o [4] [0] [] ?_;simp [hF, retK, covers, mpre, hr, dHB]
  | false =>
   repeat first|refine n2 ?_|refine n4 ?_|refine n5 ?_|refine n6 ?_|((first|refine rg 6 [0, 1, 7, 8] [0, 1, 7, 8] [] ?_|refine nc ?_);simp (maxSteps := 1000000) [hF, hp])
   refine nextK.of [0, 1, 7, 8] [0] (m - 1) (by omega) (by simp [hF]) ?_
   refine ⟨i + 1, by omega, ?_, ?_⟩
   ·intro j hj hji
    rcases Nat.lt_or_ge j i with h' | h'
    ·exact hall j hj h'
    ·obtain rfl : j = i := by omega
     exact hp
   ·simp [dHB]
    exact IntWalk.i64_in _ (by omega)
 ·have hr : ixF p ls = -1 := ixF_miss (fun j h => hall j h (by omega))
  repeat first|refine n1 ?_|refine n7 ?_|(refine rg 7 [] [4] [] ?_;simp (maxSteps := 1000000) [hF])
  (try refine nr ?_);(repeat first|refine nb_ ?_|refine nl_ ?_);refine endK.o [4] [0] [] ?_;simp [hF, retK, covers, mpre, hr, dHB]

/- slices.ContainsFunc[[]int,int] -/
theorem containsFunc_rm (ex : Bool) (ls : List Int) (h : Hp) (hl : ls.length ≤ 100000000) (p : Int → Bool)
  (hg : ∀ i, (hi0 : i < ls.length) → Meets Try.prog 69 [dHB h] (.cons (avInt ls[i]) (.cons (.ptr 0 [.d]) .nil)) fun av X κ => av = avBool (p ls[i]) ∧ X = [dHB h] ∧ κ = []) :
  Meets Try.prog 45 [dHB h] (.cons (.imm 1 (dInts ls) ex) (.cons (.fn 69 (.cons (.ptr 0 [.d]) .nil)) .nil))
  fun av X κ => av = avBool (ls.any p) ∧ X = [dHB h] ∧ κ = [] := by
 refine fb Try.func45 Try.ntmps45 [.tmp 4] fun w0 I0 F0 hF => ?_
 repeat first|refine n1 ?_|((first|refine rg 0 [0, 1] [0, 1] [] ?_|refine rg 1 [0, 1] [4] [] ?_);simp (maxSteps := 1000000) [hF, dHB])
 refine (indexFunc_rm ex ls h hl p hg).go [(0, [])] (by simp (maxSteps := 1000000) [hF, dHB]) ?_;rintro av X κ ⟨rfl, rfl, rfl⟩;simp (maxSteps := 1000000) [hF, dHB]
 have h : decide ((0 : Int) ≤ ixF p ls) = ls.any p := by simp only [ixF_ge, Bool.decide_eq_true]
 (try refine nr ?_);(repeat first|refine nb_ ?_|refine nl_ ?_);refine endK.o [4] [0] [] ?_;simp [hF, retK, covers, mpre, h, dHB]

/- slices.IndexFunc[[]int,int] -/
theorem indexFunc_ds (ex : Bool) (ls : List Int)  (hl : ls.length ≤ 100000000) (p : Int → Bool)
  (hg : ∀ i, (hi0 : i < ls.length) → Meets Try.prog 89 [] (.cons (avInt ls[i]) .nil) fun av X κ => av = avBool (p ls[i]) ∧ X = [] ∧ κ = []) :
  Meets Try.prog 80 [.sl true () 1 (dInts ls)] (.cons (.sub 0 [] 0 ls.length ex) (.cons (.fn 89 .nil) .nil))
  fun av X κ => av = avInt (ixF p ls) ∧ X = [.sl true () 1 (dInts ls)] ∧ κ = [] := by
 refine fb Try.func80 Try.ntmps80 [.tmp 4] fun w0 I0 F0 hF => ?_
 repeat first|refine n1 ?_|refine n3 ?_|((first|refine rg 0 [0, 1] [0, 1] [] ?_|refine rg 1 [0, 1] [0, 1, 7, 8] [] ?_);simp (maxSteps := 1000000) [hF])
 refine VS.rounds (fun m st => ∃ (i : Nat), i + m = ls.length ∧ (∀ j, (h : j < ls.length) → j < i → p ls[j] = false) ∧ st = ⟨[(0, .sub 0 [] 0 ls.length ex), (1, .fn 89 .nil), (7, avInt ls.length), (8, avInt i)], [.sl true () 1 (dInts ls)], [], []⟩) ⟨ls.length, 0, by omega, by omega, by simp []⟩ ?_
 rintro m st ⟨i, hi, hall, rfl⟩
 repeat first|refine n1 ?_|((first|refine rg 2 [0, 1, 7, 8] [0, 1, 7, 8, 9] [] ?_|refine nc ?_);simp (maxSteps := 1000000) [hF])
 refine ⟨fun hlt => ?_, fun hge => ?_⟩
 ·have hi' : i < ls.length := by omega
  have hn := dInts_nth hi'
  repeat first|refine n1 ?_|refine n2 ?_|refine n3 ?_|((first|refine rg 3 [0, 1, 7, 8] [0, 1, 5, 7, 8] [] ?_|refine rg 4 [0, 1, 5, 7, 8] [0, 1, 5, 7, 8, 16] [] ?_);simp (maxSteps := 1000000) [hF, hn, hi'])
  refine (hg i hi').go [] (by simp (maxSteps := 1000000) [hF]) ?_;rintro av X κ ⟨rfl, rfl, rfl⟩;simp (maxSteps := 1000000) [hF]
  cases hp : p ls[i] with
  | true =>
   have hr : ixF p ls = i := ixF_hit hi' (fun j h => hall j (by omega) h) hp
   repeat first|refine n1 ?_|((first|refine rg 5 [5] [4] [] ?_|refine nc ?_);simp (maxSteps := 1000000) [hF, hp])
   (try refine nr ?_);(repeat first|refine nb_ ?_|refine nl_ ?_);refine endK.o [4] [0] [] ?_;simp [hF, retK, covers, mpre, hr]
  | false =>
   repeat first|refine n2 ?_|refine n4 ?_|refine n5 ?_|refine n6 ?_|((first|refine rg 6 [0, 1, 7, 8] [0, 1, 7, 8] [] ?_|refine nc ?_);simp (maxSteps := 1000000) [hF, hp])
   refine nextK.of [0, 1, 7, 8] [0] (m - 1) (by omega) (by simp [hF]) ?_
   refine ⟨i + 1, by omega, ?_, ?_⟩
   ·intro j hj hji
    rcases Nat.lt_or_ge j i with h' | h'
    ·exact hall j hj h'
    ·obtain rfl : j = i := by omega
     exact hp
   ·simp []
    exact IntWalk.i64_in _ (by omega)
 ·have hr : ixF p ls = -1 := ixF_miss (fun j h => hall j h (by omega))
  repeat first|refine n1 ?_|refine n7 ?_|(refine rg 7 [] [4] [] ?_;simp (maxSteps := 1000000) [hF])
  (try refine nr ?_);(repeat first|refine nb_ ?_|refine nl_ ?_);refine endK.o [4] [0] [] ?_;simp [hF, retK, covers, mpre, hr]
theorem set_mid {kp mid r : List Int} {v : Int} (h : 0 < mid.length) : (kp ++ (mid ++ r)).set kp.length v = kp ++ v :: (mid.tail ++ r) := by
 cases mid with
 | nil => simp at h
 | cons a l => simp
theorem ixF_some {p : Int → Bool} {l : List Int} (h : l.any p = true) : ∃ i, ∃ hi : i < l.length, ixF p l = i ∧ p l[i] = true ∧ ∀ j, (hj : j < i) → p (l[j]'(by omega)) = false := by
 obtain ⟨x, hx, hp⟩ := List.any_eq_true.1 h
 have hi : l.findIdx p < l.length := List.findIdx_lt_length_of_exists ⟨x, hx, hp⟩
 refine ⟨l.findIdx p, hi, by rw [ixF, if_pos h], List.findIdx_getElem (w := hi), fun j hj => ?_⟩
 have := List.not_of_lt_findIdx hj
 simpa using this

/- slices.DeleteFunc[[]int,int] -/
theorem deleteFunc_ds (ex : Bool) (ls : List Int) (hl : ls.length ≤ 100000000) (p : Int → Bool)
  (hg : ∀ i, (h : i < ls.length) → Meets Try.prog 89 [] (.cons (avInt ls[i]) .nil) fun av X κ => av = avBool (p ls[i]) ∧ X = [] ∧ κ = []) :
  Meets Try.prog 88 [.sl true () 1 (dInts ls)] (.cons (.sub 0 [] 0 ls.length ex) (.cons (.fn 89 .nil) .nil))
  fun av X κ => ∃ e z, (ex = false → e = false) ∧ av = .sub 0 [] 0 (ls.filter fun x => !p x).length e ∧ X = [.sl true () 1 (dInts ((ls.filter fun x => !p x) ++ z))] ∧ κ = [(0, [.i 0])] := by
 refine fb Try.func88 Try.ntmps88 [.tmp 4] fun w0 I0 F0 hF => ?_
 repeat first|refine n1 ?_|((first|refine rg 0 [0, 1] [0, 1] [] ?_|refine rg 1 [0, 1] [0, 1, 5] [] ?_);simp (maxSteps := 1000000) [hF])
 refine (indexFunc_ds ex ls hl p hg).go [(0, [])] (by simp (maxSteps := 1000000) [hF]) ?_;rintro av X κ ⟨rfl, rfl, rfl⟩;simp (maxSteps := 1000000) [hF]
 by_cases ha : ls.any p = true
 ·obtain ⟨i, hi, hix, hpi, hpre⟩ := ixF_some ha
  have hw : IntKind.i64.wrap ((i : Int) + 1) = (i + 1 : Nat) := by rw [IntWalk.i64_in _ (by omega)]; rfl
  have hti : (ls.take (i + 1)).filter (fun x => !p x) = ls.take i := by
   rw [List.take_add_one, List.filter_append, List.getElem?_eq_getElem hi]
   rw [List.filter_eq_self.2 fun x hx => by
    obtain ⟨j, hj, rfl⟩ := List.mem_take_iff_getElem.1 hx
    simpa using hpre j (by omega)]
   simp [hpi]
  repeat first|refine n1 ?_|refine n2 ?_|refine n3 ?_|((first|refine rg 2 [0, 1, 5] [0, 1, 5, 12] [] ?_|refine rg 4 [0, 1, 5] [0, 1, 5, 6] [] ?_|refine nc ?_);simp (maxSteps := 1000000) [hF, hix, hw])
  refine VS.rounds (fun m st => ∃ (j : Nat) (mid : List Int), j + m = ls.length ∧ ((ls.take j).filter fun x => !p x).length + mid.length = j ∧ 0 < mid.length ∧ st = ⟨[(0, .sub 0 [] 0 ls.length ex), (1, .fn 89 .nil), (5, avInt ((ls.take j).filter fun x => !p x).length), (6, avInt j)], [.sl true () 1 (dInts (((ls.take j).filter fun x => !p x) ++ mid ++ ls.drop j)), ], [], []⟩) ⟨ls.length - (i + 1), i + 1, [ls[i]], by omega, by rw [hti]; simp; omega, by simp, by
   rw [hti]
   have e : ls.take i ++ [ls[i]] ++ ls.drop (i + 1) = ls := by simp
   rw [e]
   simp [Nat.min_eq_left (Nat.le_of_lt hi), ]⟩ ?_
  rintro m st ⟨j, mid, hj, hk, hmd, rfl⟩
  repeat first|refine n1 ?_|((first|refine rg 5 [0, 1, 5, 6] [0, 1, 5, 6, 19] [] ?_|refine nc ?_);simp (maxSteps := 1000000) [hF])
  refine ⟨fun hlt => ?_, fun hge => ?_⟩
  ·have hn : (dInts (((ls.take j).filter fun x => !p x) ++ (mid ++ ls.drop j))).nth j = .val (.int .i64 ls[j]) := by
    rw [dInts_nth (by simp; omega)]
    have : (((ls.take j).filter fun x => !p x) ++ (mid ++ ls.drop j))[j]? = some ls[j] := by
     rw [List.getElem?_append_right (by omega), List.getElem?_append_right (by omega), List.getElem?_drop, List.getElem?_eq_getElem (by omega)]
     congr 2; omega
    rw [(List.getElem_eq_iff _).2 this]
   have hw1 : IntKind.i64.wrap ((j : Int) + 1) = (j + 1 : Nat) := by rw [IntWalk.i64_in _ (by omega)]; rfl
   have ht1 : ls.take (j + 1) = ls.take j ++ [ls[j]] := by rw [List.take_add_one, List.getElem?_eq_getElem hlt]; rfl
   have hd1 : ls.drop j = ls[j] :: ls.drop (j + 1) := List.drop_eq_getElem_cons hlt
   repeat first|refine n1 ?_|refine n2 ?_|refine n3 ?_|((first|refine rg 7 [0, 1, 5, 6] [0, 1, 5, 6, 7] [] ?_|refine rg 8 [0, 1, 5, 6, 7] [0, 1, 5, 6, 7, 29] [] ?_);simp (maxSteps := 1000000) [hF, hn, hlt])
   refine (hg j hlt).go [] (by simp (maxSteps := 1000000) [hF]) ?_;rintro av X κ ⟨rfl, rfl, rfl⟩;simp (maxSteps := 1000000) [hF]
   cases hp : p ls[j] with
   | true =>
    have hf1 : (ls.take (j + 1)).filter (fun x => !p x) = (ls.take j).filter (fun x => !p x) := by rw [ht1, List.filter_append]; simp [hp]
    repeat first|refine n2 ?_|refine n4 ?_|refine n5 ?_|refine n6 ?_|((first|refine rg 6 [0, 1, 5, 6] [0, 1, 5, 6] [] ?_|refine nc ?_);simp (maxSteps := 1000000) [hF, hp, hw1])
    refine nextK.of [0, 1, 5, 6] [0] (m - 1) (by omega) (by simp [hF]) ?_
    refine ⟨j + 1, mid ++ [ls[j]], by omega, by rw [hf1]; simp; omega, by simp, ?_⟩
    rw [hf1, hd1]
    simp []
   | false =>
    have hf1 : (ls.take (j + 1)).filter (fun x => !p x) = (ls.take j).filter (fun x => !p x) ++ [ls[j]] := by rw [ht1, List.filter_append]; simp [hp]
    have hw2 : IntKind.i64.wrap ((((ls.take j).filter fun x => !p x).length : Int) + 1) = (((ls.take j).filter fun x => !p x).length + 1 : Nat) := by rw [IntWalk.i64_in _ (by omega)]; rfl
    have hkl : ((ls.take j).filter fun x => !p x).length < ls.length := by omega
    have hset : (dInts (((ls.take j).filter fun x => !p x) ++ (mid ++ ls.drop j))).setN ((ls.take j).filter fun x => !p x).length (.val (.int .i64 ls[j])) = dInts (((ls.take j).filter fun x => !p x) ++ (ls[j] :: (mid.tail ++ ls.drop j))) := by
     rw [dInts_setN, set_mid hmd]
    obtain ⟨v0, hnk⟩ : ∃ v0, (dInts (((ls.take j).filter fun x => !p x) ++ (mid ++ ls.drop j))).nth ((ls.take j).filter fun x => !p x).length = .val (.int .i64 v0) := ⟨_, dInts_nth (by simp; omega)⟩
    have hpos : 0 < mid.length + (ls.length - j) := by omega
    repeat first|refine n1 ?_|refine n4 ?_|refine n5 ?_|refine n6 ?_|((first|refine rg 6 [0, 1, 5, 6] [0, 1, 5, 6] [] ?_|refine rg 9 [0, 1, 5, 6, 7] [0, 1, 5, 6] [] ?_|refine rg 10 [0, 1, 5, 6] [0, 1, 5, 6] [] ?_|refine nc ?_);simp (maxSteps := 1000000) [hF, hp, hw1, hw2, hkl, hset, hnk, hpos])
    refine nextK.of [0, 1, 5, 6] [0] (m - 1) (by omega) (by simp [hF]) ?_
    refine ⟨j + 1, mid.tail ++ [ls[j]], by omega, by rw [hf1]; simp; omega, by simp, ?_⟩
    rw [hf1, hd1]
    simp []
  ·have hjl : j = ls.length := by omega
   subst hjl
   rw [List.take_of_length_le (Nat.le_refl _)] at hk
   simp only [List.take_of_length_le (Nat.le_refl _), List.drop_of_length_le (Nat.le_refl _)] 
   have hkl : (ls.filter fun x => !p x).length ≤ ls.length := by omega
   have htk : ((dInts ((ls.filter fun x => !p x) ++ mid)).take (ls.filter fun x => !p x).length).app (sq (List.replicate (ls.length - (ls.filter fun x => !p x).length) (.val (.int .i64 0)))) = dInts ((ls.filter fun x => !p x) ++ List.replicate (ls.length - (ls.filter fun x => !p x).length) 0) := by
    have e : (dInts ((ls.filter fun x => !p x) ++ mid)).take (ls.filter fun x => !p x).length = dInts (ls.filter fun x => !p x) := by
     have := ints_mid ((ls.filter fun x => !p x) ++ mid) 0 (ls.filter fun x => !p x).length
     simpa [T.mid, T.drop] using this
    have e2 : (sq (List.replicate (ls.length - (ls.filter fun x => !p x).length) (.val (.int .i64 0))) : D) = dInts (List.replicate (ls.length - (ls.filter fun x => !p x).length) 0) := by simp [dInts, dInt]
    rw [e, e2, dInts_app]
   repeat first|refine n1 ?_|refine n7 ?_|((first|refine rg 11 [0, 5] [0, 5] [] ?_|refine rg 12 [0, 5] [4] [] ?_);simp (maxSteps := 1000000) [hF, hkl, hk, htk])
   (try refine nr ?_);(repeat first|refine nb_ ?_|refine nl_ ?_);refine endK.o [4] [0] [(0, [.i 0])] ?_;simp [hF, retK, covers, mpre, htk]
   exact ⟨_, rfl⟩
 ·have hix : ixF p ls = -1 := by rw [ixF, if_neg ha]
  have hfi : (ls.filter fun x => !p x) = ls := List.filter_eq_self.2 fun x hx => by
   cases hp : p x with
   | false => rfl
   | true => exact absurd (List.any_eq_true.2 ⟨x, hx, hp⟩) ha
  repeat first|refine n1 ?_|((first|refine rg 2 [0, 1, 5] [0, 1, 5, 12] [] ?_|refine rg 3 [0] [4] [] ?_|refine nc ?_);simp (maxSteps := 1000000) [hF, hix])
  refine VS.widen [(0, [.i 0])] (by simp [covers, mpre]) ?_
  (try refine nr ?_);(repeat first|refine nb_ ?_|refine nl_ ?_);refine endK.o [4] [0] [(0, [.i 0])] ?_;simp [hF, retK, covers, mpre, hfi]
  cases ex with
  | false => exact .inl ⟨rfl, [], by simp⟩
  | true => exact .inr ⟨rfl, [], by simp⟩


/- slices.Clone[[]int,int] -/
theorem clone_ok (ex : Bool) (l : List Int) (hl : l.length ≤ 100000000) : Meets Try.prog 49 [] (.cons (.imm 1 (dInts l) ex) .nil)
  fun av X κ => av = .sub 0 [] 0 l.length false ∧ X = [.sl true () 1 (dInts l)] ∧ κ = [] := by
 refine fb Try.func49 Try.ntmps49 [.tmp 2] fun w0 I0 F0 hF => ?_
 repeat first|refine n1 ?_|((first|refine rg 0 [0] [0] [] ?_|refine rg 1 [0] [0, 4] [] ?_);simp (maxSteps := 1000000) [hF])
 refine ⟨?_, fun h0 => ?_⟩
 ·repeat first|refine n1 ?_|refine n2 ?_|refine ⟨⟨by omega, by omega⟩, ?_⟩|((first|refine rg 3 [0] [2] [] ?_|refine nc ?_);simp (maxSteps := 1000000) [hF])
  (try refine nr ?_);(repeat first|refine nb_ ?_|refine nl_ ?_);refine endK.o [2] [0] [] ?_;simp [hF, retK, covers, mpre]
 ·repeat first|refine n1 ?_|((first|refine rg 2 [] [2] [] ?_|refine nc ?_);simp (maxSteps := 1000000) [hF])
  refine VS.hold0 2 1 (by simp) ?_
  subst h0
  (try refine nr ?_);(repeat first|refine nb_ ?_|refine nl_ ?_);refine endK.o [2] [0] [] ?_;simp [hF, retK, covers, mpre, dInts, sq]
theorem clone_c (ex : Bool) (l : List Int) (hl : l.length ≤ 100000000) : Meets Try.prog 49 [.sl true () 1 (dInts l)] (.cons (.sub 0 [] 0 l.length ex) .nil)
  fun av X κ => av = .sub 1 [] 0 l.length false ∧ X = [.sl true () 1 (dInts l), .sl true () 1 (dInts l)] ∧ κ = [] :=
 warmL (clone_ok ex l hl) (by simp [AV.chilled]) rfl (by simp [T.allOwn]) rfl
/- slices.Clone[[]cabochon/heap.entry,cabochon/heap.entry] -/
theorem cloneE_ok (ex : Bool) (l : List (Int × Int)) (hl : l.length ≤ 1000000) : Meets Try.prog 71 [] (.cons (.imm 2 (dEns l) ex) .nil)
  fun av X κ => av = .sub 0 [] 0 l.length false ∧ X = [.sl true () 2 (dEns l)] ∧ κ = [] := by
 have c1 : l.length * 16 ≤ 140737488355328 := by omega
 have c2 : l.length ≤ 9223372036854775807 := by omega
 refine fb Try.func71 Try.ntmps71 [.tmp 2] fun w0 I0 F0 hF => ?_
 repeat first|refine n1 ?_|((first|refine rg 0 [0] [0] [] ?_|refine rg 1 [0] [0, 4] [] ?_);simp (maxSteps := 1000000) [hF, c1, c2])
 refine ⟨?_, fun h0 => ?_⟩
 ·repeat first|refine n1 ?_|refine n2 ?_|((first|refine rg 3 [0] [2] [] ?_|refine nc ?_);simp (maxSteps := 1000000) [hF, c1, c2])
  (try refine nr ?_);(repeat first|refine nb_ ?_|refine nl_ ?_);refine endK.o [2] [0] [] ?_;simp [hF, retK, covers, mpre]
 ·repeat first|refine n1 ?_|((first|refine rg 2 [] [2] [] ?_|refine nc ?_);simp (maxSteps := 1000000) [hF, c1, c2])
  refine VS.hold0 2 2 (by simp) ?_
  subst h0
  (try refine nr ?_);(repeat first|refine nb_ ?_|refine nl_ ?_);refine endK.o [2] [0] [] ?_;simp [hF, retK, covers, mpre, dEns, sq]
/- slices.Clone[[]cabochon/heap.object,cabochon/heap.object] -/
theorem cloneO_ok (ex : Bool) (l : List Ob) (hl : l.length ≤ 100000) : Meets Try.prog 70 [] (.cons (.imm 3 (dObs false l) ex) .nil)
  fun av X κ => av = .sub 0 [] 0 l.length false ∧ X = [.sl true () 3 (dObs false l)] ∧ κ = [] := by
 have c1 : l.length * 40 ≤ 140737488355328 := by omega
 have c2 : l.length ≤ 9223372036854775807 := by omega
 refine fb Try.func70 Try.ntmps70 [.tmp 2] fun w0 I0 F0 hF => ?_
 repeat first|refine n1 ?_|((first|refine rg 0 [0] [0] [] ?_|refine rg 1 [0] [0, 4] [] ?_);simp (maxSteps := 1000000) [hF, c1, c2])
 refine ⟨?_, fun h0 => ?_⟩
 ·repeat first|refine n1 ?_|refine n2 ?_|((first|refine rg 3 [0] [2] [] ?_|refine nc ?_);simp (maxSteps := 1000000) [hF, c1, c2])
  (try refine nr ?_);(repeat first|refine nb_ ?_|refine nl_ ?_);refine endK.o [2] [0] [] ?_;simp [hF, retK, covers, mpre]
 ·repeat first|refine n1 ?_|((first|refine rg 2 [] [2] [] ?_|refine nc ?_);simp (maxSteps := 1000000) [hF, c1, c2])
  refine VS.hold0 2 3 (by simp) ?_
  subst h0
  (try refine nr ?_);(repeat first|refine nb_ ?_|refine nl_ ?_);refine endK.o [2] [0] [] ?_;simp [hF, retK, covers, mpre, dObs, sq]

/- (*cabochon/heap.Heap).Roots$1 -/
theorem neg_ok (x : Int) : Meets Try.prog 46 [] (.cons (avInt x) .nil) fun av X κ => av = avBool (decide (x < 0)) ∧ X = [] ∧ κ = [] := by
 refine fb Try.func46 Try.ntmps46 [.tmp 2] fun w0 I0 F0 hF => ?_
 repeat first|refine n1 ?_|((first|refine rg 0 [0] [0] [] ?_|refine rg 1 [0] [2] [] ?_);simp (maxSteps := 1000000) [hF])
 (try refine nr ?_);(repeat first|refine nb_ ?_|refine nl_ ?_);refine endK.o [2] [] [] ?_;simp [hF, retK, covers, mpre]
/- (*cabochon/heap.Heap).do$1 -/
theorem zer_ok (x : Int) : Meets Try.prog 89 [] (.cons (avInt x) .nil) fun av X κ => av = avBool (decide (x = 0)) ∧ X = [] ∧ κ = [] := by
 refine fb Try.func89 Try.ntmps89 [.tmp 2] fun w0 I0 F0 hF => ?_
 repeat first|refine n1 ?_|((first|refine rg 0 [0] [0] [] ?_|refine rg 1 [0] [2] [] ?_);simp (maxSteps := 1000000) [hF])
 (try refine nr ?_);(repeat first|refine nb_ ?_|refine nl_ ?_);refine endK.o [2] [] [] ?_;simp [hF, retK, covers, mpre]
/- (*cabochon/heap.Heap).Roots$2 -/
theorem hasnt_ok (h : Hp) (k : Ok h) (x : Int) : MeetsP Try.prog 47 [dHp h, dJB] [(1, [.d], .ptr 0 [.d])] (.cons (avInt x) (.cons (.ptr 1 [.d]) .nil)) fun av X κ => av = avBool (!there h x) ∧ X = [dHp h, dJB] ∧ κ = [] := by
 refine fbP Try.func47 Try.ntmps47 [.tmp 3] fun w0 I0 F0 hF => ?_
 repeat first|refine n1 ?_|((first|refine rg 0 [0, 1] [0, 1] [] ?_|refine rg 1 [0, 1] [3] [] ?_);simp (maxSteps := 1000000) [hF, dJB, dHp])
 refine (has_c h k x).go [(0, [])] (by simp (maxSteps := 1000000) [hF, dJB, dHp]) ?_;rintro av X κ ⟨rfl, rfl, rfl⟩;simp (maxSteps := 1000000) [hF, dJB, dHp]
 (try refine nr ?_);(repeat first|refine nb_ ?_|refine nl_ ?_);refine endK.o [3] [0, 1] [] ?_;simp [hF, retK, covers, mpre, dJB, dHp]
/- (*cabochon/heap.Heap).Remembered$1 -/
theorem isYoung_ok (h : Hp) (k : Ok h) (x : Int) : Meets Try.prog 69 [dHB h] (.cons (avInt x) (.cons (.ptr 0 [.d]) .nil)) fun av X κ => av = avBool (inL h.young x) ∧ X = [dHB h] ∧ κ = [] := by
 refine fb Try.func69 Try.ntmps69 [.tmp 3] fun w0 I0 F0 hF => ?_
 repeat first|refine n1 ?_|((first|refine rg 0 [0, 1] [0, 1] [] ?_|refine rg 1 [0, 1] [4, 6] [] ?_);simp (maxSteps := 1000000) [hF, dHB])
 cases hy : inL h.young x with
 | true =>
  have hf : fdOf h x = (0, ixO h.young x, true) := by simp [fdOf, hy]
  refine (find_ok h k x).go [] (by simp (maxSteps := 1000000) [hF, dHB, hf]) ?_;rintro av X κ ⟨rfl, rfl, rfl⟩;simp (maxSteps := 1000000) [hF, dHB, hf]
  repeat first|refine n1 ?_|(refine rg 2 [4, 6] [3] [(1, 15)] ?_;simp (maxSteps := 1000000) [hF])
  (try refine nr ?_);(repeat first|refine nb_ ?_|refine nl_ ?_);refine endK.o [3] [0] [] ?_;simp [hF, retK, covers, mpre, dHB]
 | false =>
  cases ho : inL h.old x with
  | true =>
   have hf : fdOf h x = (1, ixO h.old x, true) := by simp [fdOf, hy, ho]
   refine (find_ok h k x).go [] (by simp (maxSteps := 1000000) [hF, dHB, hf]) ?_;rintro av X κ ⟨rfl, rfl, rfl⟩;simp (maxSteps := 1000000) [hF, dHB, hf]
   repeat first|refine n1 ?_|(refine rg 2 [4, 6] [3] [(1, 15)] ?_;simp (maxSteps := 1000000) [hF])
   (try refine nr ?_);(repeat first|refine nb_ ?_|refine nl_ ?_);refine endK.o [3] [0] [] ?_;simp [hF, retK, covers, mpre, dHB]
  | false =>
   have hf : fdOf h x = (0, 0, false) := by simp [fdOf, hy, ho]
   refine (find_ok h k x).go [] (by simp (maxSteps := 1000000) [hF, dHB, hf]) ?_;rintro av X κ ⟨rfl, rfl, rfl⟩;simp (maxSteps := 1000000) [hF, dHB, hf]
   repeat first|refine n1 ?_|(refine rg 2 [4, 6] [3] [(1, 15)] ?_;simp (maxSteps := 1000000) [hF])
   (try refine nr ?_);(repeat first|refine nb_ ?_|refine nl_ ?_);refine endK.o [3] [0] [] ?_;simp [hF, retK, covers, mpre, dHB]

/- (*cabochon/heap.Heap).asked -/
theorem asked_ok (h : Hp) (k : Ok h) (x : Int) : Meets Try.prog 40 [] (.cons (avH h) (.cons (avInt x) .nil)) fun av X κ => av = avInt (askedOf h x) ∧ X = [] ∧ κ = [] := by
 have hn : 0 < h.next := by have := k.next; omega
 refine fb Try.func40 Try.ntmps40 [.tmp 4] fun w0 I0 F0 hF => ?_
 repeat first|refine n1 ?_|refine n3 ?_|((first|refine rg 0 [0, 1] [0, 1] [] ?_|refine rg 1 [0, 1] [0, 1, 5] [(3, 9)] ?_);simp (maxSteps := 1000000) [hF])
 by_cases h1 : x < 0
 ·have hc : askedOf h x = 1 := by simp [askedOf, h1]
  refine (real_ok h hn).go [] (by simp (maxSteps := 1000000) [hF, h1]) ?_;rintro av X κ ⟨rfl, rfl, rfl⟩;simp (maxSteps := 1000000) [hF, h1]
  repeat first|refine n1 ?_|((first|refine rg 2 [] [4] [] ?_|refine nc ?_);simp (maxSteps := 1000000) [hF])
  (try refine nr ?_);(repeat first|refine nb_ ?_|refine nl_ ?_);refine endK.o [4] [] [] ?_;simp [hF, retK, covers, mpre, hc]
 ·refine (real_ok h hn).go [] (by simp (maxSteps := 1000000) [hF, h1]) ?_;rintro av X κ ⟨rfl, rfl, rfl⟩;simp (maxSteps := 1000000) [hF, h1]
  repeat first|refine n1 ?_|((first|refine rg 3 [0, 1] [13] [] ?_|refine nc ?_);simp (maxSteps := 1000000) [hF])
  cases ht : there h x with
  | true =>
   have hc : askedOf h x = 0 := by simp [askedOf, h1, ht]
   refine (has_ok h k x).go [] (by simp (maxSteps := 1000000) [hF, ht]) ?_;rintro av X κ ⟨rfl, rfl, rfl⟩;simp (maxSteps := 1000000) [hF, ht]
   repeat first|refine n1 ?_|refine n2 ?_|refine n4 ?_|((first|refine rg 5 [] [4] [] ?_|refine nc ?_);simp (maxSteps := 1000000) [hF])
   (try refine nr ?_);(repeat first|refine nb_ ?_|refine nl_ ?_);refine endK.o [4] [] [] ?_;simp [hF, retK, covers, mpre, hc]
  | false =>
   have hc : askedOf h x = 3 := by simp [askedOf, h1, ht]
   refine (has_ok h k x).go [] (by simp (maxSteps := 1000000) [hF, ht]) ?_;rintro av X κ ⟨rfl, rfl, rfl⟩;simp (maxSteps := 1000000) [hF, ht]
   repeat first|refine n1 ?_|((first|refine rg 4 [] [4] [] ?_|refine nc ?_);simp (maxSteps := 1000000) [hF])
   (try refine nr ?_);(repeat first|refine nb_ ?_|refine nl_ ?_);refine endK.o [4] [] [] ?_;simp [hF, retK, covers, mpre, hc]
theorem asked_c (h : Hp) (k : Ok h) (x : Int) : Meets Try.prog 40 [dHp h] (.cons (.ptr 0 [.d]) (.cons (avInt x) .nil)) fun av X κ => av = avInt (askedOf h x) ∧ X = [dHp h] ∧ κ = [] :=
 warmH (asked_ok h k x) rfl rfl (by simp) rfl
end Go.Proofs.Ytfdcfjjobdnofaa

/- The library's sort of numbers, at this program. -/
namespace Go.Proofs.Ytfdcfjjobdnofaa
set_option linter.all false
open Go.Vc Go.Proofs Go Go.Shelf
set_option maxRecDepth 100000

def sortRen : Ren where
  f := fun x => match x with
    | 189 => 43
    | 125 => 79
    | 257 => 78
    | 128 => 105
    | 129 => 106
    | 294 => 96
    | 295 => 97
    | 296 => 98
    | 297 => 99
    | 298 => 100
    | 299 => 101
    | 216 => 102
    | 300 => 103
    | 301 => 104
    | 328 => 108
    | 329 => 109
    | 330 => 110
    | 331 => 111
    | 332 => 112
    | 215 => 113
    | 343 => 114
    | n => n
  t := fun x => match x with
    | 28 => 23
    | 3 => 3
    | 46 => 99
    | 0 => 0
    | 51 => 134
    | 53 => 136
    | 4 => 4
    | 183 => 126
    | 182 => 125
    | 131 => 131
    | 5 => 5
    | 9 => 9
    | 218 => 138
    | 222 => 94
    | 228 => 143
    | 229 => 48
    | n => n
  g := fun n => n

theorem sortLays : Lays.n189 Try.prog sortRen where
  mixed := by kernel_rfl
  f125 := Try.func79.trans (congrArg some (by kernel_rfl))
  f128 := Try.func105.trans (congrArg some (by kernel_rfl))
  f129 := Try.func106.trans (congrArg some (by kernel_rfl))
  f189 := Try.func43.trans (congrArg some (by kernel_rfl))
  f215 := Try.func113.trans (congrArg some (by kernel_rfl))
  f216 := Try.func102.trans (congrArg some (by kernel_rfl))
  f257 := Try.func78.trans (congrArg some (by kernel_rfl))
  f294 := Try.func96.trans (congrArg some (by kernel_rfl))
  f295 := Try.func97.trans (congrArg some (by kernel_rfl))
  f296 := Try.func98.trans (congrArg some (by kernel_rfl))
  f297 := Try.func99.trans (congrArg some (by kernel_rfl))
  f298 := Try.func100.trans (congrArg some (by kernel_rfl))
  f299 := Try.func101.trans (congrArg some (by kernel_rfl))
  f300 := Try.func103.trans (congrArg some (by kernel_rfl))
  f301 := Try.func104.trans (congrArg some (by kernel_rfl))
  f328 := Try.func108.trans (congrArg some (by kernel_rfl))
  f329 := Try.func109.trans (congrArg some (by kernel_rfl))
  f330 := Try.func110.trans (congrArg some (by kernel_rfl))
  f331 := Try.func111.trans (congrArg some (by kernel_rfl))
  f332 := Try.func112.trans (congrArg some (by kernel_rfl))
  f343 := Try.func114.trans (congrArg some (by kernel_rfl))
  t0 := Try.underlying0
  a0 := Try.isAgg0
  z0 := Try.sizeOf0
  v0 := Try.zeroValue0
  t3 := Try.underlying3
  a3 := Try.isAgg3
  z3 := Try.sizeOf3
  v3 := Try.zeroValue3
  t4 := Try.underlying4
  a4 := Try.isAgg4
  z4 := Try.sizeOf4
  v4 := Try.zeroValue4
  t5 := Try.underlying5
  a5 := Try.isAgg5
  z5 := Try.sizeOf5
  v5 := Try.zeroValue5
  t9 := Try.underlying9
  a9 := Try.isAgg9
  z9 := Try.sizeOf9
  v9 := Try.zeroValue9
  t28 := Try.underlying23
  a28 := Try.isAgg23
  z28 := Try.sizeOf23
  v28 := Try.zeroValue23
  t46 := Try.underlying99
  a46 := Try.isAgg99
  z46 := Try.sizeOf99
  v46 := Try.zeroValue99
  t51 := Try.underlying134
  a51 := Try.isAgg134
  z51 := Try.sizeOf134
  v51 := Try.zeroValue134
  t53 := Try.underlying136
  a53 := Try.isAgg136
  z53 := Try.sizeOf136
  v53 := Try.zeroValue136
  t131 := Try.underlying131
  a131 := Try.isAgg131
  z131 := Try.sizeOf131
  v131 := Try.zeroValue131
  t182 := Try.underlying125
  a182 := Try.isAgg125
  z182 := Try.sizeOf125
  v182 := Try.zeroValue125
  t183 := Try.underlying126
  a183 := Try.isAgg126
  z183 := Try.sizeOf126
  v183 := Try.zeroValue126
  t218 := Try.underlying138
  a218 := Try.isAgg138
  z218 := Try.sizeOf138
  v218 := Try.zeroValue138
  t222 := Try.underlying94
  a222 := Try.isAgg94
  z222 := Try.sizeOf94
  v222 := Try.zeroValue94
  t228 := Try.underlying143
  a228 := Try.isAgg143
  z228 := Try.sizeOf143
  v228 := Try.zeroValue143
  t229 := Try.underlying48
  a229 := Try.isAgg48
  z229 := Try.sizeOf48
  v229 := Try.zeroValue48

theorem ints_eq (l : List Int) : ints l = dInts l := rfl
theorem sort_ok (l : List Int) (ex : Bool) (h0 : 0 < l.length) (hl : l.length ≤ 1000000000) : Meets Try.prog 43 [.sl true () 1 (dInts l)] (.cons (.sub 0 [] 0 l.length ex) .nil)
    fun av X κ => av = .tup .nil ∧ X = [.sl true () 1 (dInts (l.mergeSort leI))] ∧ κ = [(0, [.i 0])] :=
  Meets.sortInts sortLays ⟨_, Try.func43, by kernel_rfl, by kernel_rfl⟩ l ex h0 hl
end Go.Proofs.Ytfdcfjjobdnofaa

/- The library's sort of no numbers; of any. -/
namespace Go.Proofs.Ytfdcfjjobdnofaa
set_option linter.all false
open Go.Vc Go.Proofs
set_option linter.unusedSimpArgs false
set_option linter.unusedVariables false
set_option maxRecDepth 100000
set_option maxHeartbeats 4000000
attribute [local irreducible] CallW EqK
open Go.Shelf in
theorem len0_ok : Meets Try.prog 106 [] (.cons (.val (.int .u64 0)) .nil) fun av X κ => av = avInt 0 ∧ X = [] ∧ κ = [] := by
 refine ⟨⟨_, Try.func106, by kernel_rfl, by kernel_rfl⟩, fun w I F0 vs hY hH hnd hap hlt hilt hvs => ?_⟩
 obtain rfl : F0 = [] := by cases F0 with
  | nil => rfl
  | cons a l => cases hY
 obtain ⟨v, vs', rfl, ⟨hv, _⟩, hvn⟩ := hvs
 obtain rfl : vs' = [] := hvn
 simp only [List.cons.injEq, and_true] at hv
 subst hv
 have key := calls_of_every_depth fun D => AnyS.bits_Len64InS (P := Try.prog) (ρ := sortRen) { sortLays with } D 0 w (by decide) (by decide)
 refine Calls.mono (show Calls Try.prog 106 #[.int .u64 0] w _ from key) ?_
 rintro e w' ⟨rfl, rfl⟩
 exact ⟨_, avInt 0, [], [], I, [], rfl, ⟨rfl, rfl, rfl⟩, ⟨rfl, hH, hnd, hap, hlt, hilt, rfl, rfl, rfl, Nat.le_refl _, fun _ _ _ => rfl, (fun b hb => by cases hb), fun _ h => h, fun _ h => .inl h, (fun k g0 hg => by cases hg)⟩, rfl, rfl⟩

/- math/bits.Len -/
theorem blen0_ok : Meets Try.prog 79 [] (.cons (.val (.int .u64 0)) .nil) fun av X κ => av = avInt 0 ∧ X = [] ∧ κ = [] := by
 refine fb Try.func79 Try.ntmps79 [.tmp 2] fun w0 I0 F0 hF => ?_
 repeat first|refine n1 ?_|refine n2 ?_|((first|refine rg 0 [0] [0] [] ?_|refine rg 2 [0] [2] [] ?_|refine nc ?_);simp (maxSteps := 1000000) [hF])
 refine (len0_ok).go [] (by simp (maxSteps := 1000000) [hF]) ?_;rintro av X κ ⟨rfl, rfl, rfl⟩;simp (maxSteps := 1000000) [hF]
 (try refine nr ?_);(repeat first|refine nb_ ?_|refine nl_ ?_);refine endK.o [2] [] [] ?_;simp [hF, retK, covers, mpre]
/- slices.insertionSortOrdered[int] -/
theorem ins0_ok (ex : Bool) : Meets Try.prog 96 [.sl true () 1 .nil] (.cons (.sub 0 [] 0 0 ex) (.cons (avInt 0) (.cons (avInt 0) .nil))) fun av X κ => X = [.sl true () 1 .nil] ∧ κ = [(0, [.i 0])] := by
 have w1 : IntKind.i64.wrap 1 = 1 := by decide
 refine fb Try.func96 Try.ntmps96 [] fun w0 I0 F0 hF => ?_
 repeat first|refine n1 ?_|refine n3 ?_|(refine rg 0 [0, 1, 2] [0, 1, 2, 6] [] ?_;simp (maxSteps := 1000000) [hF, w1])
 refine VS.rounds (fun m st => st = ⟨[(0, .sub 0 [] 0 0 ex), (1, avInt 0), (2, avInt 0), (6, avInt 1)], [.sl true () 1 .nil], [], []⟩) ⟨0, by simp [w1]⟩ ?_
 rintro m st rfl
 repeat first|refine n1 ?_|refine n4 ?_|refine n7 ?_|((first|refine rg 1 [0, 1, 2, 6] [0, 1, 2, 6, 12] [] ?_|refine nc ?_);simp (maxSteps := 1000000) [hF])
 (try refine nr ?_);(repeat first|refine nb_ ?_|refine nl_ ?_);refine endK.o [] [0] [(0, [.i 0])] ?_;simp [hF, retK, covers, mpre]
/- slices.pdqsortOrdered[int] -/
theorem pdq0_ok (ex : Bool) : Meets Try.prog 78 [.sl true () 1 .nil] (.cons (.sub 0 [] 0 0 ex) (.cons (avInt 0) (.cons (avInt 0) (.cons (avInt 0) .nil)))) fun av X κ => X = [.sl true () 1 .nil] ∧ κ = [(0, [.i 0])] := by
 have w1 : IntKind.i64.wrap 0 = 0 := by decide
 refine fb Try.func78 Try.ntmps78 [] fun w0 I0 F0 hF => ?_
 repeat first|refine n1 ?_|refine n3 ?_|((first|refine rg 0 [0, 1, 2, 3] [0, 1, 2, 3, 8] [] ?_|refine rg 1 [0, 1, 2, 3, 8] [0, 1, 2, 3, 8, 9] [] ?_);simp (maxSteps := 1000000) [hF, w1])
 refine VS.rounds (fun m st => st = ⟨[(0, .sub 0 [] 0 0 ex), (1, avInt 0), (2, avInt 0), (3, avInt 0), (8, avBool true), (9, avBool true)], [.sl true () 1 .nil], [], []⟩) ⟨0, by simp [w1]⟩ ?_
 rintro m st rfl
 repeat first|refine n1 ?_|refine n3 ?_|((first|refine rg 2 [0, 1, 2, 3, 8, 9] [0, 1, 2, 3, 8, 9, 10] [] ?_|refine rg 3 [0, 1, 2, 3, 8, 9, 10] [0, 1, 2, 3, 8, 9, 10, 23] [] ?_|refine rg 4 [0, 1, 2] [] [] ?_|refine nc ?_);simp (maxSteps := 1000000) [hF, w1])
 refine (ins0_ok ex).go [(0, [])] (by simp (maxSteps := 1000000) [hF]) ?_;rintro av X κ ⟨rfl, rfl⟩;simp (maxSteps := 1000000) [hF]
 (try refine nr ?_);(repeat first|refine nb_ ?_|refine nl_ ?_);refine endK.o [] [0] [(0, [.i 0])] ?_;simp [hF, retK, covers, mpre]
/- slices.Sort[[]int,int] -/
theorem sort0_ok (ex : Bool) : Meets Try.prog 43 [.sl true () 1 .nil] (.cons (.sub 0 [] 0 0 ex) .nil) fun av X κ => X = [.sl true () 1 .nil] ∧ κ = [(0, [.i 0])] := by
 refine fb Try.func43 Try.ntmps43 [] fun w0 I0 F0 hF => ?_
 have w2 : IntKind.u64.wrap 0 = 0 := by decide
 repeat first|refine n1 ?_|((first|refine rg 0 [0] [0, 2] [] ?_|refine rg 1 [0, 2] [] [] ?_);simp (maxSteps := 1000000) [hF, w2])
 refine (blen0_ok).go [] (by simp (maxSteps := 1000000) [hF, w2]) ?_;rintro av X κ ⟨rfl, rfl, rfl⟩;simp (maxSteps := 1000000) [hF, w2]
 refine (pdq0_ok ex).go [(0, [])] (by simp (maxSteps := 1000000) [hF]) ?_;rintro av X κ ⟨rfl, rfl⟩;simp (maxSteps := 1000000) [hF]
 repeat first|refine n4 ?_
 (try refine nr ?_);(repeat first|refine nb_ ?_|refine nl_ ?_);refine endK.o [] [0] [(0, [.i 0])] ?_;simp [hF, retK, covers, mpre]
theorem sort_c (l : List Int) (ex : Bool) (hl : l.length ≤ 1000000000) : Meets Try.prog 43 [.sl true () 1 (dInts l)] (.cons (.sub 0 [] 0 l.length ex) .nil)
  fun av X κ => X = [.sl true () 1 (dInts (l.mergeSort leI))] ∧ κ = [(0, [.i 0])] := by
 cases l with
 | nil => exact Meets.mono (sort0_ok ex) fun av X κ ⟨h1, h2⟩ => ⟨by rw [h1]; simp, h2⟩
 | cons a l => exact Meets.mono (sort_ok (a :: l) ex (by simp) hl) fun av X κ ⟨h1, h2, h3⟩ => ⟨h2, h3⟩
end Go.Proofs.Ytfdcfjjobdnofaa

/- What is asked of a heap that cannot change. -/
namespace Go.Proofs.Ytfdcfjjobdnofaa
set_option linter.all false
open Go.Vc Go.Proofs
set_option linter.unusedSimpArgs false
set_option linter.unusedVariables false
set_option maxRecDepth 100000
set_option maxHeartbeats 4000000
attribute [local irreducible] CallW EqK

/- (*cabochon/heap.Heap).Remembered -/
theorem remembered_ok (h : Hp) (k : Ok h) : Meets Try.prog 35 [] (.cons (avH h) .nil) fun av X κ => av = .sub 0 [] 0 (remembOf h).length false ∧ X = [.sl true () 1 (dInts (remembOf h))] ∧ κ = [] := by
 have hn0 : 0 < h.next := by have := k.next; omega
 obtain ⟨b1, b2, b3, b4⟩ := k.lens
 refine fb Try.func35 Try.ntmps35 [.tmp 2] fun w0 I0 F0 hF => ?_
 repeat first|refine n1 ?_|((first|refine rg 0 [0] [1] [] ?_|refine rg 1 [1] [1, 8] [] ?_);simp (maxSteps := 1000000) [hF])
 refine (real_ok h hn0).go [] (by simp (maxSteps := 1000000) [hF]) ?_;rintro av X κ ⟨rfl, rfl, rfl⟩;simp (maxSteps := 1000000) [hF]
 repeat first|refine n1 ?_|refine n2 ?_|((first|refine rg 3 [1] [1, 3] [] ?_|refine nc ?_);simp (maxSteps := 1000000) [hF])
 refine VS.hold0 3 1 (by simp) ?_
 repeat first|refine n3 ?_|(refine rg 4 [1, 3] [1, 3, 13, 14, 15] [] ?_;simp (maxSteps := 1000000) [hF, dHb])
 refine VS.rounds (fun m st => ∃ (i : Nat) (acc : List Int), i + m = h.old.length ∧ acc = ((h.old.take i).filter (remB h)).map (·.handle) ∧ st = ⟨[(1, .ptr 0 [.d]), (3, .sub 1 [] 0 acc.length false), (13, .imm 3 (dObs false h.old) false), (14, avInt h.old.length), (15, avInt i)], [dHB h, .sl true () 1 (dInts acc)], [], []⟩) ⟨h.old.length, 0, [], by omega, by simp, by simp [dHB, dHb]⟩ ?_
 rintro m st ⟨i, acc, hi, hacc, rfl⟩
 have hal : acc.length ≤ 1000 := by
  rw [hacc, List.length_map]
  exact Nat.le_trans (List.length_filter_le _ _) (by rw [List.length_take]; omega)
 repeat first|refine n1 ?_|((first|refine rg 5 [1, 3, 13, 14, 15] [1, 3, 13, 14, 15, 16] [] ?_|refine nc ?_);simp (maxSteps := 1000000) [hF])
 refine ⟨fun hlt => ?_, fun hge => ?_⟩
 ·have hn1 := dObs_nth (o := false) hlt
  have hw : IntKind.i64.wrap ((i : Int) + 1) = (i + 1 : Nat) := by rw [IntWalk.i64_in _ (by omega)]; rfl
  have hsl : h.old[i].slots.length ≤ 100000000 := by have := usedN_le hlt; omega
  have c1 : (acc.length + 1) * 8 ≤ 140737488355328 := by omega
  have c2 : acc.length ≤ 9223372036854775806 := by omega
  have hm1 : (dInts (acc ++ [h.old[i].handle])).mid 0 (acc.length + 1) = dInts (acc ++ [h.old[i].handle]) := sq_mid_all _ _ (by simp)
  repeat first|refine n1 ?_|refine n2 ?_|refine n3 ?_|((first|refine rg 6 [1, 3, 13, 14, 15] [1, 3, 5, 13, 14, 15] [] ?_|refine rg 7 [1, 3, 5, 13, 14, 15] [1, 3, 5, 13, 14, 15, 22] [] ?_);simp (maxSteps := 1000000) [hF, hn1, hlt])
  cases hb : h.old[i].slots.any (inL h.young) with
  | true =>
   have hst : ((h.old.take (i + 1)).filter (remB h)).map (·.handle) = acc ++ [h.old[i].handle] := by
    rw [List.take_add_one, List.getElem?_eq_getElem hlt, List.filter_append, List.map_append, ← hacc]; simp [remB, hb]
   refine (containsFunc_rm false h.old[i].slots h hsl (inL h.young) (fun j hj => isYoung_ok h k _)).go [(0, [])] (by simp (maxSteps := 1000000) [hF, dHB, hb]) ?_;rintro av X κ ⟨rfl, rfl, rfl⟩;simp (maxSteps := 1000000) [hF, dHB, hb]
   repeat first|refine n4 ?_|refine n5 ?_|refine n6 ?_|((first|refine rg 8 [1, 3, 5, 13, 14, 15] [1, 3, 13, 14, 15] [] ?_|refine rg 9 [1, 3, 13, 14, 15] [1, 3, 13, 14, 15] [] ?_|refine nc ?_);simp (maxSteps := 1000000) [hF, c1, c2, hm1, hw])
   refine nextK.of [1, 3, 13, 14, 15] [0, 1] (m - 1) (by omega) (by simp [hF]) ?_
   exact ⟨i + 1, _, by omega, hst.symm, by simp [dHB]⟩
  | false =>
   have hst : ((h.old.take (i + 1)).filter (remB h)).map (·.handle) = acc := by
    rw [List.take_add_one, List.getElem?_eq_getElem hlt, List.filter_append, List.map_append, ← hacc]; simp [remB, hb]
   refine (containsFunc_rm false h.old[i].slots h hsl (inL h.young) (fun j hj => isYoung_ok h k _)).go [(0, [])] (by simp (maxSteps := 1000000) [hF, dHB, hb]) ?_;rintro av X κ ⟨rfl, rfl, rfl⟩;simp (maxSteps := 1000000) [hF, dHB, hb]
   repeat first|refine n2 ?_|refine n4 ?_|refine n5 ?_|refine n6 ?_|((first|refine rg 9 [1, 3, 13, 14, 15] [1, 3, 13, 14, 15] [] ?_|refine nc ?_);simp (maxSteps := 1000000) [hF, hw])
   refine nextK.of [1, 3, 13, 14, 15] [0, 1] (m - 1) (by omega) (by simp [hF]) ?_
   exact ⟨i + 1, acc, by omega, hst.symm, by simp [dHB]⟩
 ·have hf : acc.mergeSort leI = remembOf h := by rw [hacc, List.take_of_length_le (by omega)]; rfl
  have hfl : acc.length = (remembOf h).length := by rw [← hf]; simp
  repeat first|refine n1 ?_|refine n7 ?_|(refine rg 10 [3] [3] [] ?_;simp (maxSteps := 1000000) [hF])
  refine (sort_c acc false (by omega)).go [(1, [])] (by simp (maxSteps := 1000000) [hF]) ?_;rintro av X κ ⟨rfl, rfl⟩;simp (maxSteps := 1000000) [hF]
  repeat first|refine n1 ?_|(refine rg 11 [3] [2] [] ?_;simp (maxSteps := 1000000) [hF])
  (try refine nr ?_);(repeat first|refine nb_ ?_|refine nl_ ?_);refine endK.o [2] [1] [] ?_;simp [hF, retK, covers, mpre, hf, hfl]

/- (*cabochon/heap.Heap).All -/
theorem all_ok (h : Hp) (k : Ok h) : Meets Try.prog 17 [] (.cons (avH h) .nil) fun av X κ => av = .sub 0 [] 0 (allOf h).length false ∧ X = [.sl true () 1 (dInts (allOf h))] ∧ κ = [] := by
 have hn0 : 0 < h.next := by have := k.next; omega
 obtain ⟨b1, b2, b3, b4⟩ := k.lens
 have hw0 : IntKind.i64.wrap 1 = 1 := by decide
 have hw1 : IntKind.i64.wrap 2 = 2 := by decide
 refine fb Try.func17 Try.ntmps17 [.tmp 2] fun w0 I0 F0 hF => ?_
 repeat first|refine n1 ?_|((first|refine rg 0 [0] [0] [] ?_|refine rg 1 [0] [0, 10] [] ?_);simp (maxSteps := 1000000) [hF])
 refine (real_ok h hn0).go [] (by simp (maxSteps := 1000000) [hF]) ?_;rintro av X κ ⟨rfl, rfl, rfl⟩;simp (maxSteps := 1000000) [hF]
 repeat first|refine n1 ?_|refine n2 ?_|((first|refine rg 3 [0] [0, 3] [] ?_|refine nc ?_);simp (maxSteps := 1000000) [hF])
 refine VS.hold0 3 1 (by simp) ?_
 repeat first|refine n3 ?_|(refine rg 4 [0, 3] [3, 14, 15] [] ?_;simp (maxSteps := 1000000) [hF, dHb])
 refine VS.rounds (fun m st => ∃ (n : Nat) (acc : List Int), n + m = 2 ∧ (n = 0 → acc = []) ∧ (n = 1 → acc = h.young.map (·.handle)) ∧ (n = 2 → acc = (obs h).map (·.handle)) ∧ st = ⟨[(3, .sub 0 [] 0 acc.length false), (14, .agg (.cons (.imm 3 (dObs false h.young) false) (.cons (.imm 3 (dObs false h.old) false) .nil))), (15, avInt n)], [.sl true () 1 (dInts acc)], [], []⟩) ⟨2, 0, [], by omega, fun _ => rfl, by omega, by omega, by simp [dHb]⟩ ?_
 rintro m st ⟨n, acc0, hn, h0, h1, h2, rfl⟩
 have hn3 : n = 0 ∨ n = 1 ∨ n = 2 := by omega
 rcases hn3 with rfl | rfl | rfl
 ·obtain rfl := h0 rfl
  repeat first|refine n1 ?_|refine n2 ?_|refine n3 ?_|((first|refine rg 5 [3, 14, 15] [3, 14, 15, 16] [] ?_|refine rg 6 [3, 14, 15] [3, 5, 14, 15] [] ?_|refine rg 7 [3, 5, 14, 15] [3, 14, 15, 18, 19, 20] [] ?_|refine nc ?_);simp (maxSteps := 1000000) [hF, hw0])
  refine VS.rounds (fun m2 st => ∃ (i : Nat) (acc : List Int), i + m2 = h.young.length ∧ acc = ([] : List Int) ++ (h.young.take i).map (·.handle) ∧ st = ⟨[(3, .sub 0 [] 0 acc.length false), (14, .agg (.cons (.imm 3 (dObs false h.young) false) (.cons (.imm 3 (dObs false h.old) false) .nil))), (15, avInt 0), (18, .imm 3 (dObs false h.young) false), (19, avInt h.young.length), (20, avInt i)],
   [.sl true () 1 (dInts acc)], [], []⟩) ⟨h.young.length, 0, ([] : List Int), by omega, by simp, by simp⟩ ?_
  rintro m2 st ⟨i, acc, hi, hacc, rfl⟩
  have hal : acc.length ≤ 100000 := by rw [hacc]; simp; omega
  repeat first|refine n1 ?_|((first|refine rg 8 [3, 14, 15, 18, 19, 20] [3, 14, 15, 18, 19, 20, 21] [] ?_|refine nc ?_);simp (maxSteps := 1000000) [hF])
  refine ⟨fun hlt => ?_, fun hge => ?_⟩
  ·have hn1 := dObs_nth (o := false) hlt
   have c1 : (acc.length + 1) * 8 ≤ 140737488355328 := by omega
   have c2 : acc.length ≤ 9223372036854775806 := by omega
   have hw : IntKind.i64.wrap ((i : Int) + 1) = (i + 1 : Nat) := by rw [IntWalk.i64_in _ (by omega)]; rfl
   have hm1 : (dInts (acc ++ [h.young[i].handle])).mid 0 (acc.length + 1) = dInts (acc ++ [h.young[i].handle]) := sq_mid_all _ _ (by simp)
   repeat first|refine n1 ?_|refine n2 ?_|refine n3 ?_|refine n4 ?_|refine n5 ?_|refine n6 ?_|((first|refine rg 9 [3, 14, 15, 18, 19, 20] [3, 7, 14, 15, 18, 19, 20] [] ?_|refine rg 10 [3, 7, 14, 15, 18, 19, 20] [3, 14, 15, 18, 19, 20] [] ?_|refine rg 11 [3, 14, 15, 18, 19, 20] [3, 14, 15, 18, 19, 20] [] ?_);simp (maxSteps := 1000000) [hF, hn1, hlt, c1, c2, hm1, hw])
   refine nextK.of [3, 14, 15, 18, 19, 20] [0] (m2 - 1) (by omega) (by simp [hF]) ?_
   refine ⟨i + 1, acc ++ [h.young[i].handle], by omega, ?_, by simp⟩
   rw [hacc, take_map_succ _ hlt, List.append_assoc]
  ·have hf : acc = h.young.map (·.handle) := by rw [hacc, List.take_of_length_le (by omega)]; simp
   repeat first|refine n4 ?_|refine n5 ?_|refine n6 ?_|refine n7 ?_|(refine rg 12 [3, 14, 15] [3, 14, 15] [] ?_;simp (maxSteps := 1000000) [hF, hw0])
   refine nextK.of [3, 14, 15] [0] (1) (by omega) (by simp [hF]) ?_
   exact ⟨1, acc, by omega, by omega, fun _ => hf, by omega, by simp⟩
 ·obtain rfl := h1 rfl
  repeat first|refine n1 ?_|refine n2 ?_|refine n3 ?_|((first|refine rg 5 [3, 14, 15] [3, 14, 15, 16] [] ?_|refine rg 6 [3, 14, 15] [3, 5, 14, 15] [] ?_|refine rg 7 [3, 5, 14, 15] [3, 14, 15, 18, 19, 20] [] ?_|refine nc ?_);simp (maxSteps := 1000000) [hF, hw1])
  refine VS.rounds (fun m2 st => ∃ (i : Nat) (acc : List Int), i + m2 = h.old.length ∧ acc = h.young.map (·.handle) ++ (h.old.take i).map (·.handle) ∧ st = ⟨[(3, .sub 0 [] 0 acc.length false), (14, .agg (.cons (.imm 3 (dObs false h.young) false) (.cons (.imm 3 (dObs false h.old) false) .nil))), (15, avInt 1), (18, .imm 3 (dObs false h.old) false), (19, avInt h.old.length), (20, avInt i)],
   [.sl true () 1 (dInts acc)], [], []⟩) ⟨h.old.length, 0, h.young.map (·.handle), by omega, by simp, by simp⟩ ?_
  rintro m2 st ⟨i, acc, hi, hacc, rfl⟩
  have hal : acc.length ≤ 100000 := by rw [hacc]; simp; omega
  repeat first|refine n1 ?_|((first|refine rg 8 [3, 14, 15, 18, 19, 20] [3, 14, 15, 18, 19, 20, 21] [] ?_|refine nc ?_);simp (maxSteps := 1000000) [hF])
  refine ⟨fun hlt => ?_, fun hge => ?_⟩
  ·have hn1 := dObs_nth (o := false) hlt
   have c1 : (acc.length + 1) * 8 ≤ 140737488355328 := by omega
   have c2 : acc.length ≤ 9223372036854775806 := by omega
   have hw : IntKind.i64.wrap ((i : Int) + 1) = (i + 1 : Nat) := by rw [IntWalk.i64_in _ (by omega)]; rfl
   have hm1 : (dInts (acc ++ [h.old[i].handle])).mid 0 (acc.length + 1) = dInts (acc ++ [h.old[i].handle]) := sq_mid_all _ _ (by simp)
   repeat first|refine n1 ?_|refine n2 ?_|refine n3 ?_|refine n4 ?_|refine n5 ?_|refine n6 ?_|((first|refine rg 9 [3, 14, 15, 18, 19, 20] [3, 7, 14, 15, 18, 19, 20] [] ?_|refine rg 10 [3, 7, 14, 15, 18, 19, 20] [3, 14, 15, 18, 19, 20] [] ?_|refine rg 11 [3, 14, 15, 18, 19, 20] [3, 14, 15, 18, 19, 20] [] ?_);simp (maxSteps := 1000000) [hF, hn1, hlt, c1, c2, hm1, hw])
   refine nextK.of [3, 14, 15, 18, 19, 20] [0] (m2 - 1) (by omega) (by simp [hF]) ?_
   refine ⟨i + 1, acc ++ [h.old[i].handle], by omega, ?_, by simp⟩
   rw [hacc, take_map_succ _ hlt, List.append_assoc]
  ·have hf : acc = (obs h).map (·.handle) := by rw [hacc, List.take_of_length_le (by omega)]; simp [obs]
   repeat first|refine n4 ?_|refine n5 ?_|refine n6 ?_|refine n7 ?_|(refine rg 12 [3, 14, 15] [3, 14, 15] [] ?_;simp (maxSteps := 1000000) [hF, hw1])
   refine nextK.of [3, 14, 15] [0] (0) (by omega) (by simp [hF]) ?_
   exact ⟨2, acc, by omega, by omega, by omega, fun _ => hf, by simp⟩
 ·have hA := h2 rfl
  have hal : acc0.length ≤ 100000 := by rw [hA]; simp [obs]; omega
  have hf : acc0.mergeSort leI = allOf h := by rw [hA]; rfl
  have hfl : acc0.length = (allOf h).length := by rw [← hf]; simp
  repeat first|refine n1 ?_|refine n7 ?_|((first|refine rg 5 [3, 14, 15] [3, 14, 15, 16] [] ?_|refine rg 13 [3] [3] [] ?_|refine nc ?_);simp (maxSteps := 1000000) [hF])
  refine (sort_c acc0 false (by omega)).go [(0, [])] (by simp (maxSteps := 1000000) [hF]) ?_;rintro av X κ ⟨rfl, rfl⟩;simp (maxSteps := 1000000) [hF]
  repeat first|refine n1 ?_|(refine rg 14 [3] [2] [] ?_;simp (maxSteps := 1000000) [hF])
  (try refine nr ?_);(repeat first|refine nb_ ?_|refine nl_ ?_);refine endK.o [2] [0] [] ?_;simp [hF, retK, covers, mpre, hf, hfl]

/- (*cabochon/heap.Heap).Weaks -/
theorem weaks_ok (h : Hp) (k : Ok h) (hwl : h.weak.length ≤ 1000000) : Meets Try.prog 11 [] (.cons (avH h) .nil) fun av X κ => av = .sub 0 [] 0 h.weak.length false ∧ X = [.sl true () 2 (dEns h.weak)] ∧ κ = [] := by
 have hn0 : 0 < h.next := by have := k.next; omega
 refine fb Try.func11 Try.ntmps11 [.tmp 2] fun w0 I0 F0 hF => ?_
 repeat first|refine n1 ?_|((first|refine rg 0 [0] [0] [] ?_|refine rg 1 [0] [0, 8] [] ?_);simp (maxSteps := 1000000) [hF])
 refine (real_ok h hn0).go [] (by simp (maxSteps := 1000000) [hF]) ?_;rintro av X κ ⟨rfl, rfl, rfl⟩;simp (maxSteps := 1000000) [hF]
 repeat first|refine n1 ?_|refine n2 ?_|((first|refine rg 3 [0] [0, 3] [] ?_|refine nc ?_);simp (maxSteps := 1000000) [hF])
 refine VS.hold0 3 2 (by simp) ?_
 repeat first|refine n3 ?_|(refine rg 4 [0, 3] [3, 12, 13, 14] [] ?_;simp (maxSteps := 1000000) [hF, dHb])
 refine VS.rounds (fun m st => ∃ (i : Nat) (acc : List (Int × Int)), i + m = h.weak.length ∧ acc = h.weak.take i ∧ st = ⟨[(3, .sub 0 [] 0 i false), (12, .imm 2 (dEns h.weak) false), (13, avInt h.weak.length), (14, avInt i)], [.sl true () 2 (dEns acc)], [], []⟩) ⟨h.weak.length, 0, [], by omega, by simp, by simp [dHb]⟩ ?_
 rintro m st ⟨i, acc, hi, hacc, rfl⟩
 repeat first|refine n1 ?_|((first|refine rg 5 [3, 12, 13, 14] [3, 12, 13, 14, 15] [] ?_|refine nc ?_);simp (maxSteps := 1000000) [hF])
 refine ⟨fun hlt => ?_, fun hge => ?_⟩
 ·have hn1 := dEns_nth hlt
  have hal : acc.length = i := by rw [hacc, List.length_take]; omega
  have hw : IntKind.i64.wrap ((i : Int) + 1) = (i + 1 : Nat) := by rw [IntWalk.i64_in _ (by omega)]; rfl
  have c1 : (i + 1) * 16 ≤ 140737488355328 := by omega
  have c2 : i ≤ 9223372036854775806 := by omega
  have hp := dEns_push acc h.weak[i].1 h.weak[i].2
  have hm0 : (dEns acc).mid 0 i = dEns acc := sq_mid_all _ _ (by simp; omega)
  have hm1 : (dEns (acc ++ [(h.weak[i].1, h.weak[i].2)])).mid 0 (i + 1) = dEns (acc ++ [(h.weak[i].1, h.weak[i].2)]) := sq_mid_all _ _ (by simp; omega)
  repeat first|refine n1 ?_|refine n2 ?_|refine n3 ?_|refine n4 ?_|refine n5 ?_|refine n6 ?_|((first|refine rg 6 [3, 12, 13, 14] [3, 5, 12, 13, 14] [] ?_|refine rg 7 [3, 5, 12, 13, 14] [3, 12, 13, 14] [] ?_|refine rg 8 [3, 12, 13, 14] [3, 12, 13, 14] [] ?_);simp (maxSteps := 1000000) [hF, hn1, hlt, c1, c2, hp, hm0, hm1, hw])
  refine nextK.of [3, 12, 13, 14] [0] (m - 1) (by omega) (by simp [hF]) ?_
  refine ⟨i + 1, acc ++ [(h.weak[i].1, h.weak[i].2)], by omega, ?_, by simp⟩
  rw [hacc, take_succ_at hlt]
 ·have hf : acc = h.weak := by rw [hacc, List.take_of_length_le (by omega)]
  have hi2 : i = h.weak.length := by omega
  repeat first|refine n1 ?_|refine n7 ?_|(refine rg 9 [3] [2] [] ?_;simp (maxSteps := 1000000) [hF])
  (try refine nr ?_);(repeat first|refine nb_ ?_|refine nl_ ?_);refine endK.o [2] [0] [] ?_;simp [hF, retK, covers, mpre, hf, hi2]
/- (*cabochon/heap.Heap).reach -/
theorem reach_ok (h : Hp) (k : Ok h) (minor : Bool) (from_ : List Int) (ex : Bool) (hfl : from_.length ≤ 10000000) (S0 : List Int) (hS0 : ∀ x ∈ S0, ∀ y ∈ slotsOf h x, skipP h minor y = false → y ∈ S0) :
  Meets Try.prog 44 [dSn S0] (.cons (avH h) (.cons (.imm 1 (dInts from_) ex) (.cons (.mp 0 []) (.cons (avBool minor) .nil))))
  fun av X κ => ∃ S, Dfs (obs h) (skipP h minor) S0 from_ S [] ∧ X = [dSn S] ∧ κ = [(0, [.i 0])] ∧ av = .tup .nil := by
 obtain ⟨b1, b2, b3, b4⟩ := k.lens
 have hb := usedN_obs h
 have hlo : ∀ S, lftO (obs h) S ≤ 2000 := fun S => by have := lft_le (obs h) S; omega
 refine fb Try.func44 Try.ntmps44 [] fun w0 I0 F0 hF => ?_
 repeat first|refine n1 ?_|(refine rg 0 [0, 1, 2, 3] [0, 2, 3, 8] [] ?_;simp (maxSteps := 1000000) [hF])
 refine (clone_ok ex from_ (by omega)).go [] (by simp (maxSteps := 1000000) [hF, dSn]) ?_;rintro av X κ ⟨rfl, rfl, rfl⟩;simp (maxSteps := 1000000) [hF, dSn]
 repeat first|refine n3 ?_
 refine VS.widen [(0, [.i 0])] (by simp [covers, mpre]) ?_
 refine VS.rounds (fun m st => ∃ (S work z : List Int), Dfs (obs h) (skipP h minor) S0 from_ S work ∧ work.length + lftO (obs h) S ≤ 10002000 ∧ work.length + lftO (obs h) S = m ∧ st = ⟨[(0, avH h), (2, .mp 0 []), (3, avBool minor), (8, .sub 1 [] 0 work.length false)], [dSn S, .sl true () 1 (dInts (work ++ z))], [(0, [.i 0])], []⟩)
  ⟨from_.length + lftO (obs h) S0, S0, from_, [], Dfs.start hS0, by have := hlo S0; omega, rfl, by simp [dSn]⟩ ?_
 rintro m st ⟨S, work, z, hdf, hbd, hm, rfl⟩
 repeat first|refine n1 ?_|((first|refine rg 1 [0, 2, 3, 8] [0, 2, 3, 8, 17] [] ?_|refine nc ?_);simp (maxSteps := 1000000) [hF])
 refine ⟨fun hne => ?_, fun he => ?_⟩
 ·obtain ⟨w, y, rfl⟩ : ∃ w y, work = w ++ [y] := ⟨work.dropLast, work.getLast (by intro e; subst e; simp at hne), (List.dropLast_concat_getLast _).symm⟩
  simp only [List.length_append, List.length_cons, List.length_nil] at hm hbd
  have hlen : (w ++ [y]).length = w.length + 1 := by simp
  have hlz : (w ++ y :: z).length = w.length + (z.length + 1) := by simp
  have happ : w ++ [y] ++ z = w ++ y :: z := by simp
  have hn : (dInts (w ++ y :: z)).nth w.length = .val (.int .i64 y) := by rw [dInts_nth (by simp)]; simp
  have hsub : IntKind.i64.wrap (w.length : Int) = (w.length : Int) := IntWalk.i64_in _ (by omega)
  have c1 : (w.length : Int) < (w.length : Int) + 1 := by omega
  have c2 : w.length < w.length + 1 := by omega
  have hmid : (dInts (w ++ y :: z)).mid 0 w.length = dInts w := by rw [ints_mid]; simp
  repeat first|refine n1 ?_|refine n2 ?_|refine n3 ?_|((first|refine rg 2 [0, 2, 3, 8] [0, 2, 3, 8, 9] [] ?_|refine rg 3 [0, 2, 3, 8, 9] [0, 2, 3, 8, 9] [] ?_|refine rg 4 [0, 2, 3, 8, 9] [0, 2, 3, 8, 9, 10, 11, 12] [] ?_);simp (maxSteps := 1000000) [hF, happ, hlen, hn, hsub, c1, c2])
  cases hy : inL h.young y with
  | true =>
   obtain ⟨i, hi, hix, hh, hsl, _⟩ := inL_at hy
   have hf : fdOf h y = (0, (i : Int), true) := by simp [fdOf, hy, hix]
   have hth : there h y = true := by simp [there, hy]
   have hno := dist_apart k.dist hy
   have hskip : skipP h minor y = false := by simp [skipP, hth, hno]
   by_cases hs : y ∈ S
   ·have hfy := snE_yes hs
    refine (find_ok h k y).go [] (by simp (maxSteps := 1000000) [hF, hf, dSn, hfy]) ?_;rintro av X κ ⟨rfl, rfl, rfl⟩;simp (maxSteps := 1000000) [hF, hf, dSn, hfy]
    repeat first|refine n1 ?_|refine n4 ?_|refine n6 ?_|refine n7 ?_|((first|refine rg 5 [0, 2, 3, 8, 9, 10, 11, 12] [0, 2, 3, 8, 9, 10, 11, 49] [(2, 38), (7, 43), (9, 45)] ?_|refine nc ?_);simp (maxSteps := 1000000) [hF, hfy])
    refine nextK.of [0, 2, 3, 8] [0, 1] (m - 1) (by omega) (by simp [hF]) ?_
    refine ⟨S, w, y :: z, hdf.pass (.inr hs), by omega, by omega, ?_⟩
    simp [dSn]
   ·cases minor with
    | true =>
     have hfn := snE_no hs
     have hput := snE_put hs
     have hlft := lft_new k.dist (x := y) (by rw [← there_obs]; exact hth) hs
     have hso : slotsL (obs h) y = h.young[i].slots := by rw [show slotsL (obs h) y = slotsOf h y from rfl, slotsOf_y hy, hsl]
     rw [hso] at hlft
     have hsb := usedN_le hi
     have hnn := dObs_nth (o := false) hi
     have c3 : (w.length + h.young[i].slots.length) * 8 ≤ 140737488355328 := by omega
     have c4 : w.length + h.young[i].slots.length ≤ 9223372036854775807 := by omega
     have hmf : (dInts (w ++ h.young[i].slots)).mid 0 (w.length + h.young[i].slots.length) = dInts (w ++ h.young[i].slots) := by rw [ints_mid, List.drop_zero, List.take_of_length_le (by simp)]
     refine (find_ok h k y).go [] (by simp (maxSteps := 1000000) [hF, hf, dSn, hfn]) ?_;rintro av X κ ⟨rfl, rfl, rfl⟩;simp (maxSteps := 1000000) [hF, hf, dSn, hfn]
     repeat first|refine n1 ?_|refine n2 ?_|((first|refine rg 5 [0, 2, 3, 8, 9, 10, 11, 12] [0, 2, 3, 8, 9, 10, 11, 49] [(2, 38), (7, 43), (9, 45)] ?_|refine rg 6 [0, 2, 3, 8, 9, 10, 11] [0, 2, 3, 8, 10, 11] [] ?_|refine nc ?_);simp (maxSteps := 1000000) [hF, hfn, hput])
     refine VS.widen [(0, [.i 0])] (by simp [covers, mpre]) ?_
     repeat first|refine n4 ?_|refine n6 ?_|(refine rg 7 [0, 2, 3, 8, 10, 11] [0, 2, 3, 8] [] ?_;simp (maxSteps := 1000000) [hF, hfn, hput, hmid, dHb, hnn, hi, c3, c4, hmf])
     refine nextK.of [0, 2, 3, 8] [0, 1] (m - 1) (by omega) (by simp [hF]) ?_
     refine ⟨S ++ [y], w ++ h.young[i].slots, [], by have := hdf.take hskip; rwa [hso] at this, by simp; omega, by simp; omega, ?_⟩
     simp [dSn]
    | false =>
     have hfn := snE_no hs
     have hput := snE_put hs
     have hlft := lft_new k.dist (x := y) (by rw [← there_obs]; exact hth) hs
     have hso : slotsL (obs h) y = h.young[i].slots := by rw [show slotsL (obs h) y = slotsOf h y from rfl, slotsOf_y hy, hsl]
     rw [hso] at hlft
     have hsb := usedN_le hi
     have hnn := dObs_nth (o := false) hi
     have c3 : (w.length + h.young[i].slots.length) * 8 ≤ 140737488355328 := by omega
     have c4 : w.length + h.young[i].slots.length ≤ 9223372036854775807 := by omega
     have hmf : (dInts (w ++ h.young[i].slots)).mid 0 (w.length + h.young[i].slots.length) = dInts (w ++ h.young[i].slots) := by rw [ints_mid, List.drop_zero, List.take_of_length_le (by simp)]
     refine (find_ok h k y).go [] (by simp (maxSteps := 1000000) [hF, hf, dSn, hfn]) ?_;rintro av X κ ⟨rfl, rfl, rfl⟩;simp (maxSteps := 1000000) [hF, hf, dSn, hfn]
     repeat first|refine n1 ?_|refine n2 ?_|((first|refine rg 5 [0, 2, 3, 8, 9, 10, 11, 12] [0, 2, 3, 8, 9, 10, 11, 49] [(2, 38), (7, 43), (9, 45)] ?_|refine rg 6 [0, 2, 3, 8, 9, 10, 11] [0, 2, 3, 8, 10, 11] [] ?_|refine nc ?_);simp (maxSteps := 1000000) [hF, hfn, hput])
     refine VS.widen [(0, [.i 0])] (by simp [covers, mpre]) ?_
     repeat first|refine n4 ?_|refine n6 ?_|(refine rg 7 [0, 2, 3, 8, 10, 11] [0, 2, 3, 8] [] ?_;simp (maxSteps := 1000000) [hF, hfn, hput, hmid, dHb, hnn, hi, c3, c4, hmf])
     refine nextK.of [0, 2, 3, 8] [0, 1] (m - 1) (by omega) (by simp [hF]) ?_
     refine ⟨S ++ [y], w ++ h.young[i].slots, [], by have := hdf.take hskip; rwa [hso] at this, by simp; omega, by simp; omega, ?_⟩
     simp [dSn]
  | false =>
   cases ho : inL h.old y with
   | true =>
    obtain ⟨i, hi, hix, hh, hsl, _⟩ := inL_at ho
    have hf : fdOf h y = (1, (i : Int), true) := by simp [fdOf, hy, ho, hix]
    have hth : there h y = true := by simp [there, hy, ho]
    by_cases hs : y ∈ S
    ·have hfy := snE_yes hs
     refine (find_ok h k y).go [] (by simp (maxSteps := 1000000) [hF, hf, dSn, hfy]) ?_;rintro av X κ ⟨rfl, rfl, rfl⟩;simp (maxSteps := 1000000) [hF, hf, dSn, hfy]
     repeat first|refine n1 ?_|refine n4 ?_|refine n6 ?_|refine n7 ?_|((first|refine rg 5 [0, 2, 3, 8, 9, 10, 11, 12] [0, 2, 3, 8, 9, 10, 11, 49] [(2, 38), (7, 43), (9, 45)] ?_|refine nc ?_);simp (maxSteps := 1000000) [hF, hfy])
     refine nextK.of [0, 2, 3, 8] [0, 1] (m - 1) (by omega) (by simp [hF]) ?_
     refine ⟨S, w, y :: z, hdf.pass (.inr hs), by omega, by omega, ?_⟩
     simp [dSn]
    ·cases minor with
     | true =>
      have hskip : skipP h true y = true := by simp [skipP, hth, ho]
      have hfn := snE_no hs
      refine (find_ok h k y).go [] (by simp (maxSteps := 1000000) [hF, hf, dSn, hfn]) ?_;rintro av X κ ⟨rfl, rfl, rfl⟩;simp (maxSteps := 1000000) [hF, hf, dSn, hfn]
      repeat first|refine n1 ?_|refine n4 ?_|refine n6 ?_|refine n7 ?_|((first|refine rg 5 [0, 2, 3, 8, 9, 10, 11, 12] [0, 2, 3, 8, 9, 10, 11, 49] [(2, 38), (7, 43), (9, 45)] ?_|refine nc ?_);simp (maxSteps := 1000000) [hF, hfn])
      refine nextK.of [0, 2, 3, 8] [0, 1] (m - 1) (by omega) (by simp [hF]) ?_
      refine ⟨S, w, y :: z, hdf.pass (.inl hskip), by omega, by omega, ?_⟩
      simp [dSn]
     | false =>
      have hskip : skipP h false y = false := by simp [skipP, hth]
      have hfn := snE_no hs
      have hput := snE_put hs
      have hlft := lft_new k.dist (x := y) (by rw [← there_obs]; exact hth) hs
      have hso : slotsL (obs h) y = h.old[i].slots := by rw [show slotsL (obs h) y = slotsOf h y from rfl, slotsOf_o hy, hsl]
      rw [hso] at hlft
      have hsb := usedN_le hi
      have hnn := dObs_nth (o := false) hi
      have c3 : (w.length + h.old[i].slots.length) * 8 ≤ 140737488355328 := by omega
      have c4 : w.length + h.old[i].slots.length ≤ 9223372036854775807 := by omega
      have hmf : (dInts (w ++ h.old[i].slots)).mid 0 (w.length + h.old[i].slots.length) = dInts (w ++ h.old[i].slots) := by rw [ints_mid, List.drop_zero, List.take_of_length_le (by simp)]
      refine (find_ok h k y).go [] (by simp (maxSteps := 1000000) [hF, hf, dSn, hfn]) ?_;rintro av X κ ⟨rfl, rfl, rfl⟩;simp (maxSteps := 1000000) [hF, hf, dSn, hfn]
      repeat first|refine n1 ?_|refine n2 ?_|((first|refine rg 5 [0, 2, 3, 8, 9, 10, 11, 12] [0, 2, 3, 8, 9, 10, 11, 49] [(2, 38), (7, 43), (9, 45)] ?_|refine rg 6 [0, 2, 3, 8, 9, 10, 11] [0, 2, 3, 8, 10, 11] [] ?_|refine nc ?_);simp (maxSteps := 1000000) [hF, hfn, hput])
      refine VS.widen [(0, [.i 0])] (by simp [covers, mpre]) ?_
      repeat first|refine n4 ?_|refine n6 ?_|(refine rg 7 [0, 2, 3, 8, 10, 11] [0, 2, 3, 8] [] ?_;simp (maxSteps := 1000000) [hF, hfn, hput, hmid, dHb, hnn, hi, c3, c4, hmf])
      refine nextK.of [0, 2, 3, 8] [0, 1] (m - 1) (by omega) (by simp [hF]) ?_
      refine ⟨S ++ [y], w ++ h.old[i].slots, [], by have := hdf.take hskip; rwa [hso] at this, by simp; omega, by simp; omega, ?_⟩
      simp [dSn]
   | false =>
    have hf : fdOf h y = (0, 0, false) := by simp [fdOf, hy, ho]
    have hskip : skipP h minor y = true := by simp [skipP, there, hy, ho]
    refine (find_ok h k y).go [] (by simp (maxSteps := 1000000) [hF, hf, dSn]) ?_;rintro av X κ ⟨rfl, rfl, rfl⟩;simp (maxSteps := 1000000) [hF, hf, dSn]
    repeat first|refine n1 ?_|refine n4 ?_|refine n6 ?_|refine n7 ?_|((first|refine rg 5 [0, 2, 3, 8, 9, 10, 11, 12] [0, 2, 3, 8, 9, 10, 11, 49] [(2, 38), (7, 43), (9, 45)] ?_|refine nc ?_);simp (maxSteps := 1000000) [hF])
    refine nextK.of [0, 2, 3, 8] [0, 1] (m - 1) (by omega) (by simp [hF]) ?_
    refine ⟨S, w, y :: z, hdf.pass (.inl hskip), by omega, by omega, ?_⟩
    simp [dSn]
 ·have he : work = [] := by simpa using he
  subst he
  repeat first|refine n4 ?_|refine n7 ?_
  (try refine nr ?_);(repeat first|refine nb_ ?_|refine nl_ ?_);refine endK.o [] [0] [(0, [.i 0])] ?_;simp [hF, retK, covers, mpre, dSn]
  exact ⟨S, hdf, by simp⟩
/- (*cabochon/heap.Heap).Live -/
theorem live_ok (h : Hp) (k : Ok h) : Meets Try.prog 19 [] (.cons (avH h) .nil) fun av X κ => av = .sub 0 [] 0 (liveOf h).length false ∧ X = [.sl true () 1 (dInts (liveOf h))] ∧ κ = [] := by
 have hn0 : 0 < h.next := by have := k.next; omega
 obtain ⟨b1, b2, b3, b4⟩ := k.lens
 have hall : (allOf h).length ≤ 2000 := by simp [allOf, obs]; omega
 have hsn : dSn [] = .map true () .nil := rfl
 refine fb Try.func19 Try.ntmps19 [.tmp 2] fun w0 I0 F0 hF => ?_
 repeat first|refine n1 ?_|((first|refine rg 0 [0] [0] [] ?_|refine rg 1 [0] [0, 9] [] ?_);simp (maxSteps := 1000000) [hF])
 refine (real_ok h hn0).go [] (by simp (maxSteps := 1000000) [hF]) ?_;rintro av X κ ⟨rfl, rfl, rfl⟩;simp (maxSteps := 1000000) [hF]
 repeat first|refine n1 ?_|refine n2 ?_|((first|refine rg 3 [0] [0, 3] [] ?_|refine nc ?_);simp (maxSteps := 1000000) [hF])
 repeat first|(refine rg 4 [0, 3] [0, 3] [] ?_;simp (maxSteps := 1000000) [hF, dHb])
 refine (reach_ok h k false h.roots false (by have := k.roots.1; omega) [] (by simp)).go [(0, [])] (by simp (maxSteps := 1000000) [hF, hsn, dHb]) ?_;rintro av X κ ⟨S, hS, rfl, rfl, rfl⟩;simp (maxSteps := 1000000) [hF, hsn, dHb]
 have hr : ∀ x, decide (x ∈ S) = true ↔ RR h x := fun x => by
  rw [decide_eq_true_iff, hS.done x, RR]; simp; rfl
 have hlf := live_filter k hr
 repeat first|refine n1 ?_|(refine rg 5 [0, 3] [0, 3, 4] [] ?_;simp (maxSteps := 1000000) [hF])
 refine VS.hold0 4 1 (by simp) ?_
 repeat first|(refine rg 6 [0, 3, 4] [3, 4, 19, 20, 21] [] ?_;simp (maxSteps := 1000000) [hF])
 refine (all_ok h k).go [] (by simp (maxSteps := 1000000) [hF, dSn, dHb]) ?_;rintro av X κ ⟨rfl, rfl, rfl⟩;simp (maxSteps := 1000000) [hF, dSn, dHb]
 repeat first|refine n3 ?_
 generalize hL : allOf h = L at *
 refine VS.rounds (fun m st => ∃ (i : Nat) (acc : List Int), i + m = L.length ∧ acc = (L.take i).filter (fun x => decide (x ∈ S)) ∧ st = ⟨[(3, .mp 0 []), (4, .sub 1 [] 0 acc.length false), (19, .sub 2 [] 0 L.length false), (20, avInt L.length), (21, avInt i)], [dSn S, .sl true () 1 (dInts acc), .sl true () 1 (dInts L)], [], []⟩) ⟨L.length, 0, [], by omega, by simp, by simp [dSn]⟩ ?_
 rintro m st ⟨i, acc, hi, hacc, rfl⟩
 have hal : acc.length ≤ 2000 := by
  rw [hacc]
  exact Nat.le_trans (List.length_filter_le _ _) (by rw [List.length_take]; omega)
 repeat first|refine n1 ?_|((first|refine rg 7 [3, 4, 19, 20, 21] [3, 4, 19, 20, 21, 22] [] ?_|refine nc ?_);simp (maxSteps := 1000000) [hF])
 refine ⟨fun hlt => ?_, fun hge => ?_⟩
 ·have hn1 := dInts_nth hlt
  have hw : IntKind.i64.wrap ((i : Int) + 1) = (i + 1 : Nat) := by rw [IntWalk.i64_in _ (by omega)]; rfl
  have c1 : (acc.length + 1) * 8 ≤ 140737488355328 := by omega
  have c2 : acc.length ≤ 9223372036854775806 := by omega
  have hm1 : (dInts (acc ++ [L[i]])).mid 0 (acc.length + 1) = dInts (acc ++ [L[i]]) := sq_mid_all _ _ (by simp)
  by_cases hs : L[i] ∈ S
  ·have hst : (L.take (i + 1)).filter (fun x => decide (x ∈ S)) = acc ++ [L[i]] := by
    rw [take_succ_at hlt, List.filter_append, ← hacc]; simp [hs]
   have hfy := snE_yes hs
   repeat first|refine n1 ?_|refine n2 ?_|refine n3 ?_|refine n4 ?_|refine n5 ?_|refine n6 ?_|((first|refine rg 8 [3, 4, 19, 20, 21] [3, 4, 6, 19, 20, 21] [] ?_|refine rg 9 [3, 4, 6, 19, 20, 21] [3, 4, 6, 19, 20, 21, 27] [] ?_|refine rg 10 [3, 4, 6, 19, 20, 21] [3, 4, 19, 20, 21] [] ?_|refine rg 11 [3, 4, 19, 20, 21] [3, 4, 19, 20, 21] [] ?_|refine nc ?_);simp (maxSteps := 1000000) [hF, hn1, hlt, dSn, hfy, c1, c2, hm1, hw])
   refine nextK.of [3, 4, 19, 20, 21] [0, 1, 2] (m - 1) (by omega) (by simp [hF]) ?_
   exact ⟨i + 1, _, by omega, hst.symm, by simp [dSn]⟩
  ·have hst : (L.take (i + 1)).filter (fun x => decide (x ∈ S)) = acc := by
    rw [take_succ_at hlt, List.filter_append, ← hacc]; simp [hs]
   have hfn := snE_no hs
   repeat first|refine n1 ?_|refine n2 ?_|refine n3 ?_|refine n4 ?_|refine n5 ?_|refine n6 ?_|((first|refine rg 8 [3, 4, 19, 20, 21] [3, 4, 6, 19, 20, 21] [] ?_|refine rg 9 [3, 4, 6, 19, 20, 21] [3, 4, 6, 19, 20, 21, 27] [] ?_|refine rg 11 [3, 4, 19, 20, 21] [3, 4, 19, 20, 21] [] ?_|refine nc ?_);simp (maxSteps := 1000000) [hF, hn1, hlt, dSn, hfn, hw])
   refine nextK.of [3, 4, 19, 20, 21] [0, 1, 2] (m - 1) (by omega) (by simp [hF]) ?_
   exact ⟨i + 1, acc, by omega, hst.symm, by simp [dSn]⟩
 ·have hf : acc = liveOf h := by rw [hacc, List.take_of_length_le (by omega), hlf]
  repeat first|refine n1 ?_|refine n7 ?_|(refine rg 12 [4] [2] [] ?_;simp (maxSteps := 1000000) [hF])
  (try refine nr ?_);(repeat first|refine nb_ ?_|refine nl_ ?_);refine endK.o [2] [1] [] ?_;simp [hF, retK, covers, mpre, hf]
/- (*cabochon/heap.Heap).Used -/
theorem hused_ok (h : Hp) (k : Ok h) : Meets Try.prog 25 [] (.cons (avH h) .nil) fun av X κ => av = two ((usedN h.young : Int), (usedN h.old : Int)) ∧ X = [] ∧ κ = [] := by
 have hn0 : 0 < h.next := by have := k.next; omega
 obtain ⟨b1, b2, b3, b4⟩ := k.lens
 refine fb Try.func25 Try.ntmps25 [.tmp 2, .tmp 3] fun w0 I0 F0 hF => ?_
 repeat first|refine n1 ?_|((first|refine rg 0 [0] [0] [] ?_|refine rg 1 [0] [0, 6] [] ?_);simp (maxSteps := 1000000) [hF])
 refine (real_ok h hn0).go [] (by simp (maxSteps := 1000000) [hF]) ?_;rintro av X κ ⟨rfl, rfl, rfl⟩;simp (maxSteps := 1000000) [hF]
 repeat first|refine n1 ?_|refine n2 ?_|((first|(refine dr 3 2080 [0] [2, 3] [] [⟨0, 1, 128, 5⟩, ⟨1, 128, 256, 5⟩, ⟨2, 256, 512, 5⟩, ⟨4, 512, 1024, 5⟩, ⟨8, 1024, 2048, 6⟩, ⟨16, 2048, 4096, 0⟩, ⟨0, 1, 8192, 5⟩, ⟨64, 8192, 16384, 5⟩, ⟨128, 16384, 32768, 5⟩, ⟨256, 32768, 65536, 5⟩, ⟨512, 65536, 131072, 6⟩, ⟨1056, 131072, 262144, 0⟩, ⟨2111, 4096, 4, 5⟩, ⟨8191, 262144, 8, 5⟩] (.take 0 (.take 1 (.take 2 (.take 3 (.take 4 (.take 6 (.take 7 (.take 8 (.take 9 (.take 10 (.fork (.alt 5 (.fork (.alt 11 (.take 12 (.take 13 (.done))) (.nil))) (.nil))))))))))))) (.run [0, 1, 2, 3, 4, 6, 7, 8, 9, 10] (.chk 5 (.run [5] (.chk 11 (.run [11, 12, 13] (.done)))))) ?_;simp only [drs])|refine nc ?_);simp (maxSteps := 1000000) [hF, dHb])
 refine (used_ok h.young false (by omega) (by omega)).go [] (by simp (maxSteps := 1000000) [hF]) ?_;rintro av X κ ⟨rfl, rfl, rfl⟩;simp (maxSteps := 1000000) [hF]
 refine (used_ok h.old false (by omega) (by omega)).go [] (by simp (maxSteps := 1000000) [hF]) ?_;rintro av X κ ⟨rfl, rfl, rfl⟩;simp (maxSteps := 1000000) [hF]
 (try refine nr ?_);(repeat first|refine nb_ ?_|refine nl_ ?_);refine endK.o [2, 3] [] [] ?_;simp [hF, retK, covers, mpre]

abbrev avPl (r : Bool × Int × Int × Int) : AV := .tup (.cons (avBool r.1) (.cons (avInt r.2.1) (.cons (avInt r.2.2.1) (.cons (avInt r.2.2.2) .nil))))
/- (*cabochon/heap.Heap).Place -/
theorem place_ok (h : Hp) (k : Ok h) (x : Int) : Meets Try.prog 14 [] (.cons (avH h) (.cons (avInt x) .nil)) fun av X κ => av = avPl (placeOf h x) ∧ X = [] ∧ κ = [] := by
 obtain ⟨b1, b2, b3, b4⟩ := k.lens
 refine fb Try.func14 Try.ntmps14 [.tmp 4, .tmp 5, .tmp 6, .tmp 7] fun w0 I0 F0 hF => ?_
 repeat first|refine n1 ?_|((first|refine rg 0 [0, 1] [0, 1] [] ?_|refine rg 1 [0, 1] [0, 1, 8] [] ?_);simp (maxSteps := 1000000) [hF])
 by_cases hz : askedOf h x = 0
 ·have hth := asked_there hz
  refine (asked_ok h k x).go [] (by simp (maxSteps := 1000000) [hF, hz]) ?_;rintro av X κ ⟨rfl, rfl, rfl⟩;simp (maxSteps := 1000000) [hF, hz]
  repeat first|refine n1 ?_|refine n2 ?_|((first|refine rg 2 [0, 1, 8] [0, 1, 8, 16] [] ?_|refine rg 4 [0, 1] [0, 9, 10] [] ?_|refine nc ?_);simp (maxSteps := 1000000) [hF, hz])
  cases hy : inL h.young x with
  | true =>
   obtain ⟨i, hi, hix, hh, hsl, hfd, htk, _⟩ := inL_at hy
   have hf : fdOf h x = (0, (i : Int), true) := by simp [fdOf, hy, hix]
   have hc : placeOf h x = (false, (usedN (h.young.take i) : Int), h.young[i].age, 0) := by rw [placeOf, if_neg (by simp [hz]), if_pos hy, htk, hfd]; rfl
   have hut := usedN_take h.young i
   have htl : (h.young.take i).length ≤ 100000 := by rw [List.length_take]; omega
   have hm : (dObs false h.young).mid 0 i = dObs false (h.young.take i) := by rw [dObs_mid]; simp
   have hn := dObs_nth (o := false) hi
   refine (find_ok h k x).go [] (by simp (maxSteps := 1000000) [hF, hf]) ?_;rintro av X κ ⟨rfl, rfl, rfl⟩;simp (maxSteps := 1000000) [hF, hf]
   repeat first|refine n1 ?_|((refine dr 5 1024 [0, 9, 10] [4, 5, 6, 7] [] [⟨0, 512, 33554432, 5⟩, ⟨1, 33554432, 67108864, 5⟩, ⟨0, 1, 134217728, 5⟩, ⟨0, 512, 268435456, 5⟩, ⟨4, 134217728, 536870912, 5⟩, ⟨16, 536870912, 1073741824, 5⟩, ⟨40, 1342177280, 2147483648, 5⟩, ⟨64, 2147483648, 4294967296, 6⟩, ⟨0, 1024, 8589934592, 5⟩, ⟨384, 12884901888, 17179869184, 5⟩, ⟨512, 17179869184, 34359738368, 0⟩, ⟨0, 1, 68719476736, 5⟩, ⟨0, 512, 137438953472, 5⟩, ⟨2048, 68719476736, 274877906944, 5⟩, ⟨8192, 274877906944, 549755813888, 5⟩, ⟨20480, 687194767360, 1099511627776, 5⟩, ⟨32768, 1099511627776, 2199023255552, 6⟩, ⟨0, 1024, 4398046511104, 5⟩, ⟨196608, 6597069766656, 8796093022208, 5⟩, ⟨262144, 8796093022208, 17592186044416, 5⟩, ⟨524288, 17592186044416, 35184372088832, 6⟩, ⟨1027, 67108864, 16, 5⟩, ⟨2099199, 34359738368, 32, 5⟩, ⟨8388607, 35184372088832, 64, 5⟩, ⟨16777215, 0, 128, 5⟩] (.take 0 (.take 1 (.take 2 (.take 3 (.take 4 (.take 5 (.take 6 (.take 7 (.take 8 (.take 9 (.take 11 (.take 12 (.take 13 (.take 14 (.take 15 (.take 16 (.take 17 (.take 18 (.take 19 (.take 20 (.fork (.alt 10 (.take 21 (.take 22 (.take 23 (.take 24 (.done))))) (.nil))))))))))))))))))))))) (.run [0, 1, 2, 3, 4, 5, 6, 7, 8, 9, 11, 12, 13, 14, 15, 16, 17, 18, 19, 20] (.chk 10 (.run [10, 21, 22, 23, 24] (.done)))) ?_;simp only [drs]);simp (maxSteps := 1000000) [hF, dHb, hm, hn, hi])
   refine ⟨by omega, ?_⟩
   refine (used_ok (h.young.take i) false htl (by omega)).go [] (by simp (maxSteps := 1000000) [hF]) ?_;rintro av X κ ⟨rfl, rfl, rfl⟩;simp (maxSteps := 1000000) [hF]
   (try refine nr ?_);(repeat first|refine nb_ ?_|refine nl_ ?_);refine endK.o [4, 5, 6, 7] [] [] ?_;simp [hF, retK, covers, mpre, hc]
  | false =>
   have ho : inL h.old x = true := by simpa [there, hy] using hth
   obtain ⟨i, hi, hix, hh, hsl, hfd, htk, _⟩ := inL_at ho
   have hf : fdOf h x = (1, (i : Int), true) := by simp [fdOf, hy, ho, hix]
   have hc : placeOf h x = (true, (usedN (h.old.take i) : Int), h.old[i].age, 0) := by rw [placeOf, if_neg (by simp [hz]), if_neg (by simp [hy]), htk, hfd]; rfl
   have hut := usedN_take h.old i
   have htl : (h.old.take i).length ≤ 100000 := by rw [List.length_take]; omega
   have hm : (dObs false h.old).mid 0 i = dObs false (h.old.take i) := by rw [dObs_mid]; simp
   have hn := dObs_nth (o := false) hi
   refine (find_ok h k x).go [] (by simp (maxSteps := 1000000) [hF, hf]) ?_;rintro av X κ ⟨rfl, rfl, rfl⟩;simp (maxSteps := 1000000) [hF, hf]
   repeat first|refine n1 ?_|((refine dr 5 1024 [0, 9, 10] [4, 5, 6, 7] [] [⟨0, 512, 33554432, 5⟩, ⟨1, 33554432, 67108864, 5⟩, ⟨0, 1, 134217728, 5⟩, ⟨0, 512, 268435456, 5⟩, ⟨4, 134217728, 536870912, 5⟩, ⟨16, 536870912, 1073741824, 5⟩, ⟨40, 1342177280, 2147483648, 5⟩, ⟨64, 2147483648, 4294967296, 6⟩, ⟨0, 1024, 8589934592, 5⟩, ⟨384, 12884901888, 17179869184, 5⟩, ⟨512, 17179869184, 34359738368, 0⟩, ⟨0, 1, 68719476736, 5⟩, ⟨0, 512, 137438953472, 5⟩, ⟨2048, 68719476736, 274877906944, 5⟩, ⟨8192, 274877906944, 549755813888, 5⟩, ⟨20480, 687194767360, 1099511627776, 5⟩, ⟨32768, 1099511627776, 2199023255552, 6⟩, ⟨0, 1024, 4398046511104, 5⟩, ⟨196608, 6597069766656, 8796093022208, 5⟩, ⟨262144, 8796093022208, 17592186044416, 5⟩, ⟨524288, 17592186044416, 35184372088832, 6⟩, ⟨1027, 67108864, 16, 5⟩, ⟨2099199, 34359738368, 32, 5⟩, ⟨8388607, 35184372088832, 64, 5⟩, ⟨16777215, 0, 128, 5⟩] (.take 0 (.take 1 (.take 2 (.take 3 (.take 4 (.take 5 (.take 6 (.take 7 (.take 8 (.take 9 (.take 11 (.take 12 (.take 13 (.take 14 (.take 15 (.take 16 (.take 17 (.take 18 (.take 19 (.take 20 (.fork (.alt 10 (.take 21 (.take 22 (.take 23 (.take 24 (.done))))) (.nil))))))))))))))))))))))) (.run [0, 1, 2, 3, 4, 5, 6, 7, 8, 9, 11, 12, 13, 14, 15, 16, 17, 18, 19, 20] (.chk 10 (.run [10, 21, 22, 23, 24] (.done)))) ?_;simp only [drs]);simp (maxSteps := 1000000) [hF, dHb, hm, hn, hi])
   refine ⟨by omega, ?_⟩
   refine (used_ok (h.old.take i) false htl (by omega)).go [] (by simp (maxSteps := 1000000) [hF]) ?_;rintro av X κ ⟨rfl, rfl, rfl⟩;simp (maxSteps := 1000000) [hF]
   (try refine nr ?_);(repeat first|refine nb_ ?_|refine nl_ ?_);refine endK.o [4, 5, 6, 7] [] [] ?_;simp [hF, retK, covers, mpre, hc]
 ·have hc : placeOf h x = (false, 0, 0, askedOf h x) := by simp [placeOf, hz]
  refine (asked_ok h k x).go [] (by simp (maxSteps := 1000000) [hF, hz]) ?_;rintro av X κ ⟨rfl, rfl, rfl⟩;simp (maxSteps := 1000000) [hF, hz]
  repeat first|refine n1 ?_|((first|refine rg 2 [0, 1, 8] [0, 1, 8, 16] [] ?_|refine rg 3 [8] [4, 5, 6, 7] [] ?_|refine nc ?_);simp (maxSteps := 1000000) [hF, hz])
  (try refine nr ?_);(repeat first|refine nb_ ?_|refine nl_ ?_);refine endK.o [4, 5, 6, 7] [] [] ?_;simp [hF, retK, covers, mpre, hc]
theorem there_or {h : Hp} (k : Ok h) {x : Int} (ht : there h x = true) : (∃ i, ∃ hi : i < h.young.length, inL h.young x = true ∧ ixO h.young x = i ∧ fdOf h x = (0, (i : Int), true) ∧ slotsOf h x = h.young[i].slots ∧ ∀ f, updO h x f = { h with young := h.young.set i (f h.young[i]) }) ∨
  ∃ i, ∃ hi : i < h.old.length, inL h.young x = false ∧ ixO h.old x = i ∧ fdOf h x = (1, (i : Int), true) ∧ slotsOf h x = h.old[i].slots ∧ ∀ f, updO h x f = { h with old := h.old.set i (f h.old[i]) } := by
 cases hy : inL h.young x with
 | true =>
  obtain ⟨i, hi, hix, hh, hsl, hfd, htk, hup⟩ := inL_at hy
  exact .inl ⟨i, hi, rfl, hix, by simp [fdOf, hy, hix], by rw [slotsOf_y hy, hsl], fun f => by rw [updO, if_pos hy, hup]⟩
 | false =>
  have ho : inL h.old x = true := by simpa [there, hy] using ht
  obtain ⟨i, hi, hix, hh, hsl, hfd, htk, hup⟩ := inL_at ho
  exact .inr ⟨i, hi, rfl, hix, by simp [fdOf, hy, ho, hix], by rw [slotsOf_o hy, hsl], fun f => by rw [updO, if_neg (by simp [hy]), hup]⟩
theorem fd_none {h : Hp} {x : Int} (ht : there h x = false) : fdOf h x = (0, 0, false) := by
 rw [there, Bool.or_eq_false_iff] at ht
 simp [fdOf, ht.1, ht.2]
/-- Where a slot is. -/
def slotP (h : Hp) (x s : Int) : AV := if inL h.young x = true then .ptr 0 [.d, .f 1, .f 0, .i (ixO h.young x).toNat, .f 2, .i s.toNat] else .ptr 0 [.d, .f 1, .f 1, .i (ixO h.old x).toNat, .f 2, .i s.toNat]

/- (*cabochon/heap.Heap).slot -/
theorem slot_ok (h : Hp) (k : Ok h) (x s z : Int) : Meets Try.prog 53 [dHp h] (.cons (.ptr 0 [.d]) (.cons (avInt x) (.cons (avInt s) (.cons (avInt z) .nil))))
  fun av X κ => av = avTwo (if slotErr h x s z = 0 then slotP h x s else avNil) (slotErr h x s z) ∧ X = [dHp h] ∧ κ = [] := by
 have hn0 : 0 < h.next := by have := k.next; omega
 refine fb Try.func53 Try.ntmps53 [.tmp 8, .tmp 9] fun w0 I0 F0 hF => ?_
 repeat first|refine n1 ?_|((first|refine rg 0 [0, 1, 2, 3] [0, 1, 2, 3] [] ?_|refine rg 1 [0, 1, 2, 3] [0, 1, 2, 3, 31] [(3, 16), (7, 20), (11, 24), (15, 28)] ?_);simp (maxSteps := 1000000) [hF])
 by_cases h1 : x < 0
 ·have hc : slotErr h x s z = 1 := by simp [slotErr, h1]
  refine (real_c h hn0).go [(0, [])] (by simp (maxSteps := 1000000) [hF, h1, dHp]) ?_;rintro av X κ ⟨rfl, rfl, rfl⟩;simp (maxSteps := 1000000) [hF, h1, dHp]
  repeat first|refine n1 ?_|((first|refine rg 2 [] [8, 9] [] ?_|refine nc ?_);simp (maxSteps := 1000000) [hF])
  (try refine nr ?_);(repeat first|refine nb_ ?_|refine nl_ ?_);refine endK.o [8, 9] [0] [] ?_;simp [hF, retK, covers, mpre, hc, dHp]
 by_cases h2 : s < 0
 ·have hc : slotErr h x s z = 1 := by simp [slotErr, h2]
  refine (real_c h hn0).go [(0, [])] (by simp (maxSteps := 1000000) [hF, h1, h2, dHp]) ?_;rintro av X κ ⟨rfl, rfl, rfl⟩;simp (maxSteps := 1000000) [hF, h1, h2, dHp]
  repeat first|refine n1 ?_|((first|refine rg 2 [] [8, 9] [] ?_|refine nc ?_);simp (maxSteps := 1000000) [hF])
  (try refine nr ?_);(repeat first|refine nb_ ?_|refine nl_ ?_);refine endK.o [8, 9] [0] [] ?_;simp [hF, retK, covers, mpre, hc, dHp]
 by_cases h3 : 8 ≤ s
 ·have hc : slotErr h x s z = 1 := by simp [slotErr, h3]
  refine (real_c h hn0).go [(0, [])] (by simp (maxSteps := 1000000) [hF, h1, h2, h3, dHp]) ?_;rintro av X κ ⟨rfl, rfl, rfl⟩;simp (maxSteps := 1000000) [hF, h1, h2, h3, dHp]
  repeat first|refine n1 ?_|((first|refine rg 2 [] [8, 9] [] ?_|refine nc ?_);simp (maxSteps := 1000000) [hF])
  (try refine nr ?_);(repeat first|refine nb_ ?_|refine nl_ ?_);refine endK.o [8, 9] [0] [] ?_;simp [hF, retK, covers, mpre, hc, dHp]
 by_cases h4 : z < 0
 ·have hc : slotErr h x s z = 1 := by simp [slotErr, h4]
  refine (real_c h hn0).go [(0, [])] (by simp (maxSteps := 1000000) [hF, h1, h2, h3, h4, dHp]) ?_;rintro av X κ ⟨rfl, rfl, rfl⟩;simp (maxSteps := 1000000) [hF, h1, h2, h3, h4, dHp]
  repeat first|refine n1 ?_|((first|refine rg 2 [] [8, 9] [] ?_|refine nc ?_);simp (maxSteps := 1000000) [hF])
  (try refine nr ?_);(repeat first|refine nb_ ?_|refine nl_ ?_);refine endK.o [8, 9] [0] [] ?_;simp [hF, retK, covers, mpre, hc, dHp]
 refine (real_c h hn0).go [(0, [])] (by simp (maxSteps := 1000000) [hF, h1, h2, h3, h4, dHp]) ?_;rintro av X κ ⟨rfl, rfl, rfl⟩;simp (maxSteps := 1000000) [hF, h1, h2, h3, h4, dHp]
 repeat first|refine n1 ?_|refine n2 ?_|((first|refine rg 3 [0, 1, 2, 3] [0, 2, 3, 10, 11, 12] [] ?_|refine nc ?_);simp (maxSteps := 1000000) [hF])
 obtain ⟨t, rfl⟩ : ∃ t : Nat, s = t := ⟨s.toNat, by omega⟩
 cases ht : there h x with
 | false =>
  have hf := fd_none ht
  have hc : slotErr h x t z = 3 := by simp [slotErr, h1, h3, h4, ht]
  refine (find_c h k x).go [(0, [])] (by simp (maxSteps := 1000000) [hF, hf, dHp]) ?_;rintro av X κ ⟨rfl, rfl, rfl⟩;simp (maxSteps := 1000000) [hF, hf, dHp]
  repeat first|refine n1 ?_|refine n2 ?_|((first|refine rg 4 [0, 2, 3, 10, 11, 12] [0, 2, 3, 10, 11, 12, 54] [(1, 40)] ?_|refine rg 6 [0, 2, 3, 10, 11, 12] [0, 2, 10, 11, 66] [(2, 57), (5, 60)] ?_|refine rg 7 [] [8, 9] [] ?_|refine nc ?_);simp (maxSteps := 1000000) [hF])
  (try refine nr ?_);(repeat first|refine nb_ ?_|refine nl_ ?_);refine endK.o [8, 9] [0] [] ?_;simp [hF, retK, covers, mpre, hc, dHp]
 | true =>
  rcases there_or k ht with ⟨i, hi, hy, hix, hf, hso, hup⟩ | ⟨i, hi, hy, hix, hf, hso, hup⟩
  ·have hn := dObs_nth (o := true) hi
   have hP : slotP h x t = .ptr 0 [.d, .f 1, .f 0, .i i, .f 2, .i t] := by
    simp [slotP, hy, hix]
   refine (find_c h k x).go [(0, [])] (by simp (maxSteps := 1000000) [hF, hf, dHp]) ?_;rintro av X κ ⟨rfl, rfl, rfl⟩;simp (maxSteps := 1000000) [hF, hf, dHp]
   by_cases h5 : (h.young[i].slots.length : Int) ≤ t
   ·have h5' : h.young[i].slots.length ≤ t := by omega
    have hc : slotErr h x t z = 1 := by simp [slotErr, h1, h3, h4, ht, hso, h5']
    repeat first|refine n1 ?_|((first|refine rg 4 [0, 2, 3, 10, 11, 12] [0, 2, 3, 10, 11, 12, 54] [(1, 40)] ?_|refine rg 5 [] [8, 9] [] ?_|refine nc ?_);simp (maxSteps := 1000000) [hF, dHb, hn, hi, h5, h5'])
    (try refine nr ?_);(repeat first|refine nb_ ?_|refine nl_ ?_);refine endK.o [8, 9] [0] [] ?_;simp [hF, retK, covers, mpre, hc, dHp, dHb]
   ·have h5' : t < h.young[i].slots.length := by omega
    have h5'' : ¬ h.young[i].slots.length ≤ t := by omega
    repeat first|refine n1 ?_|refine n2 ?_|((first|refine rg 4 [0, 2, 3, 10, 11, 12] [0, 2, 3, 10, 11, 12, 54] [(1, 40)] ?_|refine nc ?_);simp (maxSteps := 1000000) [hF, dHb, hn, hi, h5, h5'])
    by_cases h6 : 0 < z
    ·cases hz : there h z with
     | true =>
      have hc : slotErr h x t z = 0 := by simp [slotErr, h1, h3, h4, ht, hso, h5'', hz]
      repeat first|(refine rg 6 [0, 2, 3, 10, 11, 12] [0, 2, 10, 11, 66] [(2, 57), (5, 60)] ?_;simp (maxSteps := 1000000) [hF, h6])
      refine (has_c h k z).go [(0, [])] (by simp (maxSteps := 1000000) [hF, hz, dHp, dHb]) ?_;rintro av X κ ⟨rfl, rfl, rfl⟩;simp (maxSteps := 1000000) [hF, hz, dHp, dHb]
      repeat first|refine n1 ?_|refine n2 ?_|((first|refine rg 8 [0, 2, 10, 11] [8, 9] [] ?_|refine nc ?_);simp (maxSteps := 1000000) [hF, dHb, hn, hi, h5'])
      (try refine nr ?_);(repeat first|refine nb_ ?_|refine nl_ ?_);refine endK.o [8, 9] [0] [] ?_;simp [hF, retK, covers, mpre, hc, hP, dHp, dHb]
     | false =>
      have hc : slotErr h x t z = 3 := by simp [slotErr, h1, h3, h4, ht, hso, h5'', hz, h6]
      repeat first|(refine rg 6 [0, 2, 3, 10, 11, 12] [0, 2, 10, 11, 66] [(2, 57), (5, 60)] ?_;simp (maxSteps := 1000000) [hF, h6])
      refine (has_c h k z).go [(0, [])] (by simp (maxSteps := 1000000) [hF, hz, dHp, dHb]) ?_;rintro av X κ ⟨rfl, rfl, rfl⟩;simp (maxSteps := 1000000) [hF, hz, dHp, dHb]
      repeat first|refine n1 ?_|((first|refine rg 7 [] [8, 9] [] ?_|refine nc ?_);simp (maxSteps := 1000000) [hF])
      (try refine nr ?_);(repeat first|refine nb_ ?_|refine nl_ ?_);refine endK.o [8, 9] [0] [] ?_;simp [hF, retK, covers, mpre, hc, dHp, dHb]
    ·have hc : slotErr h x t z = 0 := by simp [slotErr, h1, h3, h4, ht, hso, h5'', h6]
     repeat first|refine n1 ?_|refine n2 ?_|((first|refine rg 6 [0, 2, 3, 10, 11, 12] [0, 2, 10, 11, 66] [(2, 57), (5, 60)] ?_|refine rg 8 [0, 2, 10, 11] [8, 9] [] ?_|refine nc ?_);simp (maxSteps := 1000000) [hF, h6, dHb, hn, hi, h5'])
     (try refine nr ?_);(repeat first|refine nb_ ?_|refine nl_ ?_);refine endK.o [8, 9] [0] [] ?_;simp [hF, retK, covers, mpre, hc, hP, dHp, dHb]
  ·have hn := dObs_nth (o := true) hi
   have hP : slotP h x t = .ptr 0 [.d, .f 1, .f 1, .i i, .f 2, .i t] := by
    simp [slotP, hy, hix]
   refine (find_c h k x).go [(0, [])] (by simp (maxSteps := 1000000) [hF, hf, dHp]) ?_;rintro av X κ ⟨rfl, rfl, rfl⟩;simp (maxSteps := 1000000) [hF, hf, dHp]
   by_cases h5 : (h.old[i].slots.length : Int) ≤ t
   ·have h5' : h.old[i].slots.length ≤ t := by omega
    have hc : slotErr h x t z = 1 := by simp [slotErr, h1, h3, h4, ht, hso, h5']
    repeat first|refine n1 ?_|((first|refine rg 4 [0, 2, 3, 10, 11, 12] [0, 2, 3, 10, 11, 12, 54] [(1, 40)] ?_|refine rg 5 [] [8, 9] [] ?_|refine nc ?_);simp (maxSteps := 1000000) [hF, dHb, hn, hi, h5, h5'])
    (try refine nr ?_);(repeat first|refine nb_ ?_|refine nl_ ?_);refine endK.o [8, 9] [0] [] ?_;simp [hF, retK, covers, mpre, hc, dHp, dHb]
   ·have h5' : t < h.old[i].slots.length := by omega
    have h5'' : ¬ h.old[i].slots.length ≤ t := by omega
    repeat first|refine n1 ?_|refine n2 ?_|((first|refine rg 4 [0, 2, 3, 10, 11, 12] [0, 2, 3, 10, 11, 12, 54] [(1, 40)] ?_|refine nc ?_);simp (maxSteps := 1000000) [hF, dHb, hn, hi, h5, h5'])
    by_cases h6 : 0 < z
    ·cases hz : there h z with
     | true =>
      have hc : slotErr h x t z = 0 := by simp [slotErr, h1, h3, h4, ht, hso, h5'', hz]
      repeat first|(refine rg 6 [0, 2, 3, 10, 11, 12] [0, 2, 10, 11, 66] [(2, 57), (5, 60)] ?_;simp (maxSteps := 1000000) [hF, h6])
      refine (has_c h k z).go [(0, [])] (by simp (maxSteps := 1000000) [hF, hz, dHp, dHb]) ?_;rintro av X κ ⟨rfl, rfl, rfl⟩;simp (maxSteps := 1000000) [hF, hz, dHp, dHb]
      repeat first|refine n1 ?_|refine n2 ?_|((first|refine rg 8 [0, 2, 10, 11] [8, 9] [] ?_|refine nc ?_);simp (maxSteps := 1000000) [hF, dHb, hn, hi, h5'])
      (try refine nr ?_);(repeat first|refine nb_ ?_|refine nl_ ?_);refine endK.o [8, 9] [0] [] ?_;simp [hF, retK, covers, mpre, hc, hP, dHp, dHb]
     | false =>
      have hc : slotErr h x t z = 3 := by simp [slotErr, h1, h3, h4, ht, hso, h5'', hz, h6]
      repeat first|(refine rg 6 [0, 2, 3, 10, 11, 12] [0, 2, 10, 11, 66] [(2, 57), (5, 60)] ?_;simp (maxSteps := 1000000) [hF, h6])
      refine (has_c h k z).go [(0, [])] (by simp (maxSteps := 1000000) [hF, hz, dHp, dHb]) ?_;rintro av X κ ⟨rfl, rfl, rfl⟩;simp (maxSteps := 1000000) [hF, hz, dHp, dHb]
      repeat first|refine n1 ?_|((first|refine rg 7 [] [8, 9] [] ?_|refine nc ?_);simp (maxSteps := 1000000) [hF])
      (try refine nr ?_);(repeat first|refine nb_ ?_|refine nl_ ?_);refine endK.o [8, 9] [0] [] ?_;simp [hF, retK, covers, mpre, hc, dHp, dHb]
    ·have hc : slotErr h x t z = 0 := by simp [slotErr, h1, h3, h4, ht, hso, h5'', h6]
     repeat first|refine n1 ?_|refine n2 ?_|((first|refine rg 6 [0, 2, 3, 10, 11, 12] [0, 2, 10, 11, 66] [(2, 57), (5, 60)] ?_|refine rg 8 [0, 2, 10, 11] [8, 9] [] ?_|refine nc ?_);simp (maxSteps := 1000000) [hF, h6, dHb, hn, hi, h5'])
     (try refine nr ?_);(repeat first|refine nb_ ?_|refine nl_ ?_);refine endK.o [8, 9] [0] [] ?_;simp [hF, retK, covers, mpre, hc, hP, dHp, dHb]

theorem slot_err0 {h : Hp} {x s z : Int} (he : slotErr h x s z = 0) : ∃ t : Nat, s = t ∧ t < (slotsOf h x).length ∧ there h x = true := by
 unfold slotErr at he
 split at he
 ·cases he
 ·rename_i h1
  split at he
  ·cases he
  ·rename_i h2
   split at he
   ·cases he
   ·rename_i h3
    have ht : there h x = true := by
     cases e : there h x with
     | true => rfl
     | false => exact absurd (.inl e) h3
    exact ⟨s.toNat, by omega, by have : ¬ (slotsOf h x).length ≤ s := fun hh => h2 ⟨ht, hh⟩; omega, ht⟩
/- (*cabochon/heap.Heap).Get -/
theorem get_ok (h : Hp) (k : Ok h) (x s : Int) : Meets Try.prog 23 [dHp h] (.cons (.ptr 0 [.d]) (.cons (avInt x) (.cons (avInt s) .nil)))
  fun av X κ => av = two (getOf h x s) ∧ X = [dHp h] ∧ κ = [] := by
 refine fb Try.func23 Try.ntmps23 [.tmp 6, .tmp 7] fun w0 I0 F0 hF => ?_
 repeat first|refine n1 ?_|((first|refine rg 0 [0, 1, 2] [0, 1, 2] [] ?_|refine rg 1 [0, 1, 2] [8, 9] [] ?_);simp (maxSteps := 1000000) [hF])
 by_cases he : slotErr h x s 0 = 0
 ·obtain ⟨t, rfl, ht, hth⟩ := slot_err0 he
  rcases there_or k hth with ⟨i, hi, hy, hix, hf, hso, hup⟩ | ⟨i, hi, hy, hix, hf, hso, hup⟩
  ·rw [hso] at ht
   have hP : slotP h x t = .ptr 0 [.d, .f 1, .f 0, .i i, .f 2, .i t] := by simp [slotP, hy, hix]
   have hn := dObs_nth (o := true) hi
   have hm := dInts_nth ht
   have hc : getOf h x t = (h.young[i].slots[t], 0) := by simp [getOf, he, hso, ht]
   refine (slot_ok h k x t 0).go [(0, [])] (by simp (maxSteps := 1000000) [hF, he, hP, dHp]) ?_;rintro av X κ ⟨rfl, rfl, rfl⟩;simp (maxSteps := 1000000) [hF, he, hP, dHp]
   repeat first|refine n1 ?_|refine n2 ?_|((first|refine rg 2 [8, 9] [8, 9, 18] [] ?_|refine rg 4 [8] [6, 7] [] ?_|refine nc ?_);simp (maxSteps := 1000000) [hF, dHb, hn, hi, hm, ht])
   (try refine nr ?_);(repeat first|refine nb_ ?_|refine nl_ ?_);refine endK.o [6, 7] [0] [] ?_;simp [hF, retK, covers, mpre, hc, dHp, dHb]
  ·rw [hso] at ht
   have hP : slotP h x t = .ptr 0 [.d, .f 1, .f 1, .i i, .f 2, .i t] := by simp [slotP, hy, hix]
   have hn := dObs_nth (o := true) hi
   have hm := dInts_nth ht
   have hc : getOf h x t = (h.old[i].slots[t], 0) := by simp [getOf, he, hso, ht]
   refine (slot_ok h k x t 0).go [(0, [])] (by simp (maxSteps := 1000000) [hF, he, hP, dHp]) ?_;rintro av X κ ⟨rfl, rfl, rfl⟩;simp (maxSteps := 1000000) [hF, he, hP, dHp]
   repeat first|refine n1 ?_|refine n2 ?_|((first|refine rg 2 [8, 9] [8, 9, 18] [] ?_|refine rg 4 [8] [6, 7] [] ?_|refine nc ?_);simp (maxSteps := 1000000) [hF, dHb, hn, hi, hm, ht])
   (try refine nr ?_);(repeat first|refine nb_ ?_|refine nl_ ?_);refine endK.o [6, 7] [0] [] ?_;simp [hF, retK, covers, mpre, hc, dHp, dHb]
 ·have hc : getOf h x s = (0, slotErr h x s 0) := by simp [getOf, he]
  refine (slot_ok h k x s 0).go [(0, [])] (by simp (maxSteps := 1000000) [hF, he, dHp]) ?_;rintro av X κ ⟨rfl, rfl, rfl⟩;simp (maxSteps := 1000000) [hF, he, dHp]
  repeat first|refine n1 ?_|((first|refine rg 2 [8, 9] [8, 9, 18] [] ?_|refine rg 3 [9] [6, 7] [] ?_|refine nc ?_);simp (maxSteps := 1000000) [hF, he])
  (try refine nr ?_);(repeat first|refine nb_ ?_|refine nl_ ?_);refine endK.o [6, 7] [0] [] ?_;simp [hF, retK, covers, mpre, hc, dHp, dHb]

/- (*cabochon/heap.Heap).Set -/
theorem set_ok (h : Hp) (k : Ok h) (x s z : Int) : Meets Try.prog 34 [dHp h] (.cons (.ptr 0 [.d]) (.cons (avInt x) (.cons (avInt s) (.cons (avInt z) .nil))))
  fun av X κ => av = avInt (setOf h x s z).2 ∧ X = [dHp (setOf h x s z).1] ∧ κ = [(0, [.d])] := by
 refine fb Try.func34 Try.ntmps34 [.tmp 8] fun w0 I0 F0 hF => ?_
 repeat first|refine n1 ?_|((first|refine rg 0 [0, 1, 2, 3] [0, 1, 2, 3] [] ?_|refine rg 1 [0, 1, 2, 3] [3, 9, 10] [] ?_);simp (maxSteps := 1000000) [hF])
 by_cases he : slotErr h x s z = 0
 ·obtain ⟨t, rfl, ht, hth⟩ := slot_err0 he
  rcases there_or k hth with ⟨i, hi, hy, hix, hf, hso, hup⟩ | ⟨i, hi, hy, hix, hf, hso, hup⟩
  ·rw [hso] at ht
   have hP : slotP h x t = .ptr 0 [.d, .f 1, .f 0, .i i, .f 2, .i t] := by simp [slotP, hy, hix]
   have hn := dObs_nth (o := true) hi
   have hm := dInts_nth ht
   have hs2 := dObs_set true h.young i h.young[i].handle h.young[i].age (h.young[i].slots.set t z)
   have hc : setOf h x t z = ({ h with young := h.young.set i ⟨h.young[i].handle, h.young[i].age, h.young[i].slots.set t z⟩ }, 0) := by rw [setOf, if_neg (by simp [he]), hup]; simp
   refine (slot_ok h k x t z).go [(0, [])] (by simp (maxSteps := 1000000) [hF, he, hP, dHp]) ?_;rintro av X κ ⟨rfl, rfl, rfl⟩;simp (maxSteps := 1000000) [hF, he, hP, dHp]
   repeat first|refine n1 ?_|((first|refine rg 2 [3, 9, 10] [3, 9, 10, 20] [] ?_|refine rg 3 [3, 9, 10] [10] [] ?_|refine rg 4 [10] [8] [] ?_|refine nc ?_);simp (maxSteps := 1000000) [hF, he, dHb, hn, hi, hm, ht, hs2])
   refine VS.widen [(0, [.d])] (by simp [covers, mpre]) ?_
   (try refine nr ?_);(repeat first|refine nb_ ?_|refine nl_ ?_);refine endK.o [8] [0] [(0, [.d])] ?_;simp [hF, retK, covers, mpre, hc, dHp, dHb]
  ·rw [hso] at ht
   have hP : slotP h x t = .ptr 0 [.d, .f 1, .f 1, .i i, .f 2, .i t] := by simp [slotP, hy, hix]
   have hn := dObs_nth (o := true) hi
   have hm := dInts_nth ht
   have hs2 := dObs_set true h.old i h.old[i].handle h.old[i].age (h.old[i].slots.set t z)
   have hc : setOf h x t z = ({ h with old := h.old.set i ⟨h.old[i].handle, h.old[i].age, h.old[i].slots.set t z⟩ }, 0) := by rw [setOf, if_neg (by simp [he]), hup]; simp
   refine (slot_ok h k x t z).go [(0, [])] (by simp (maxSteps := 1000000) [hF, he, hP, dHp]) ?_;rintro av X κ ⟨rfl, rfl, rfl⟩;simp (maxSteps := 1000000) [hF, he, hP, dHp]
   repeat first|refine n1 ?_|((first|refine rg 2 [3, 9, 10] [3, 9, 10, 20] [] ?_|refine rg 3 [3, 9, 10] [10] [] ?_|refine rg 4 [10] [8] [] ?_|refine nc ?_);simp (maxSteps := 1000000) [hF, he, dHb, hn, hi, hm, ht, hs2])
   refine VS.widen [(0, [.d])] (by simp [covers, mpre]) ?_
   (try refine nr ?_);(repeat first|refine nb_ ?_|refine nl_ ?_);refine endK.o [8] [0] [(0, [.d])] ?_;simp [hF, retK, covers, mpre, hc, dHp, dHb]
 ·have hc : setOf h x s z = (h, slotErr h x s z) := by simp [setOf, he]
  refine (slot_ok h k x s z).go [(0, [])] (by simp (maxSteps := 1000000) [hF, he, dHp]) ?_;rintro av X κ ⟨rfl, rfl, rfl⟩;simp (maxSteps := 1000000) [hF, he, dHp]
  repeat first|refine n1 ?_|refine n2 ?_|((first|refine rg 2 [3, 9, 10] [3, 9, 10, 20] [] ?_|refine rg 4 [10] [8] [] ?_|refine nc ?_);simp (maxSteps := 1000000) [hF, he])
  refine VS.widen [(0, [.d])] (by simp [covers, mpre]) ?_
  (try refine nr ?_);(repeat first|refine nb_ ?_|refine nl_ ?_);refine endK.o [8] [0] [(0, [.d])] ?_;simp [hF, retK, covers, mpre, hc, dHp, dHb]

/- (*cabochon/heap.Heap).Weak -/
theorem weak_ok (h : Hp) (k : Ok h) (hwl : h.weak.length ≤ 1000000) (x t : Int) : Meets Try.prog 33 [dHp h] (.cons (.ptr 0 [.d]) (.cons (avInt x) (.cons (avInt t) .nil)))
  fun av X κ => av = two (weakOf h x t).2 ∧ X = [dHp (weakOf h x t).1] ∧ κ = [(0, [.d])] := by
 have hp := dEns_push h.weak x t
 have hm := dEns_mid1 h.weak (x, t)
 have c1 : (h.weak.length + 1) * 16 ≤ 140737488355328 := by omega
 have c2 : h.weak.length ≤ 9223372036854775806 := by omega
 have hw : IntKind.i64.wrap ((h.weak.length : Int) + 1 - 1) = h.weak.length := by rw [IntWalk.i64_in _ (by omega)]; omega
 have hw' : IntKind.i64.wrap (h.weak.length : Int) = h.weak.length := IntWalk.i64_in _ (by omega)
 refine fb Try.func33 Try.ntmps33 [.tmp 6, .tmp 7] fun w0 I0 F0 hF => ?_
 repeat first|refine n1 ?_|((first|refine rg 0 [0, 1, 2] [0, 1, 2] [] ?_|refine rg 1 [0, 1, 2] [0, 1, 2, 8] [] ?_);simp (maxSteps := 1000000) [hF])
 by_cases hz : askedOf h x = 0
 ·have hc : weakOf h x t = ({ h with weak := h.weak ++ [(x, t)] }, (h.weak.length : Int), 0) := by simp [weakOf, hz]
  refine (asked_c h k x).go [(0, [])] (by simp (maxSteps := 1000000) [hF, hz, dHp]) ?_;rintro av X κ ⟨rfl, rfl, rfl⟩;simp (maxSteps := 1000000) [hF, hz, dHp]
  repeat first|refine n1 ?_|refine n2 ?_|((first|refine rg 2 [0, 1, 2, 8] [0, 1, 2, 8, 13] [] ?_|refine nc ?_);simp (maxSteps := 1000000) [hF, hz])
  refine ghostL 0 [.d, .f 4] ?_;simp (maxSteps := 1000000) [hF, St.lift, AV.lift, liftPl, stripP, nodeAV, isNode, dHb]
  repeat first|refine n1 ?_|((first|refine rg 4 [0, 1, 2] [0] [] ?_|refine rg 5 [0] [6, 7] [] ?_);simp (maxSteps := 1000000) [hF, hp, hm, c1, c2, hw, hw'])
  refine VS.widen [(0, [.d])] (by simp [covers, mpre]) ?_
  (try refine nr ?_);(repeat first|refine nb_ ?_|refine nl_ ?_);refine endK.o [6, 7] [0] [(0, [.d])] ?_;simp [hF, retK, covers, mpre, hc, dHp, dHb]
 ·have hc : weakOf h x t = (h, 0, askedOf h x) := by simp [weakOf, hz]
  refine (asked_c h k x).go [(0, [])] (by simp (maxSteps := 1000000) [hF, hz, dHp]) ?_;rintro av X κ ⟨rfl, rfl, rfl⟩;simp (maxSteps := 1000000) [hF, hz, dHp]
  repeat first|refine n1 ?_|((first|refine rg 2 [0, 1, 2, 8] [0, 1, 2, 8, 13] [] ?_|refine rg 3 [8] [6, 7] [] ?_|refine nc ?_);simp (maxSteps := 1000000) [hF, hz])
  refine VS.widen [(0, [.d])] (by simp [covers, mpre]) ?_
  (try refine nr ?_);(repeat first|refine nb_ ?_|refine nl_ ?_);refine endK.o [6, 7] [0] [(0, [.d])] ?_;simp [hF, retK, covers, mpre, hc, dHp]

/- (*cabochon/heap.Heap).Final -/
theorem final_ok (h : Hp) (k : Ok h) (hwl : h.fins.length ≤ 1000000) (x t : Int) : Meets Try.prog 18 [dHp h] (.cons (.ptr 0 [.d]) (.cons (avInt x) (.cons (avInt t) .nil)))
  fun av X κ => av = avInt (finalOf h x t).2 ∧ X = [dHp (finalOf h x t).1] ∧ κ = [(0, [.d])] := by
 have hp := dEns_push h.fins x t
 have hm := dEns_mid1 h.fins (x, t)
 have c1 : (h.fins.length + 1) * 16 ≤ 140737488355328 := by omega
 have c2 : h.fins.length ≤ 9223372036854775806 := by omega
 refine fb Try.func18 Try.ntmps18 [.tmp 6] fun w0 I0 F0 hF => ?_
 repeat first|refine n1 ?_|((first|refine rg 0 [0, 1, 2] [0, 1, 2] [] ?_|refine rg 1 [0, 1, 2] [0, 1, 2, 7] [] ?_);simp (maxSteps := 1000000) [hF])
 by_cases hz : askedOf h x = 0
 ·have hc : finalOf h x t = ({ h with fins := h.fins ++ [(x, t)] }, 0) := by simp [finalOf, hz]
  refine (asked_c h k x).go [(0, [])] (by simp (maxSteps := 1000000) [hF, hz, dHp]) ?_;rintro av X κ ⟨rfl, rfl, rfl⟩;simp (maxSteps := 1000000) [hF, hz, dHp]
  repeat first|refine n1 ?_|((first|refine rg 2 [0, 1, 2, 7] [0, 1, 2, 7, 12] [] ?_|refine nc ?_);simp (maxSteps := 1000000) [hF, hz])
  refine ghostL 0 [.d, .f 5] ?_;simp (maxSteps := 1000000) [hF, St.lift, AV.lift, liftPl, stripP, nodeAV, isNode, dHb]
  repeat first|refine n1 ?_|((first|refine rg 3 [0, 1, 2, 7] [7] [] ?_|refine rg 4 [7] [6] [] ?_);simp (maxSteps := 1000000) [hF, hz, hp, hm, c1, c2])
  refine VS.widen [(0, [.d])] (by simp [covers, mpre]) ?_
  (try refine nr ?_);(repeat first|refine nb_ ?_|refine nl_ ?_);refine endK.o [6] [0] [(0, [.d])] ?_;simp [hF, retK, covers, mpre, hc, dHp, dHb]
 ·have hc : finalOf h x t = (h, askedOf h x) := by simp [finalOf, hz]
  refine (asked_c h k x).go [(0, [])] (by simp (maxSteps := 1000000) [hF, hz, dHp]) ?_;rintro av X κ ⟨rfl, rfl, rfl⟩;simp (maxSteps := 1000000) [hF, hz, dHp]
  repeat first|refine n1 ?_|refine n2 ?_|((first|refine rg 2 [0, 1, 2, 7] [0, 1, 2, 7, 12] [] ?_|refine rg 4 [7] [6] [] ?_|refine nc ?_);simp (maxSteps := 1000000) [hF, hz])
  refine VS.widen [(0, [.d])] (by simp [covers, mpre]) ?_
  (try refine nr ?_);(repeat first|refine nb_ ?_|refine nl_ ?_);refine endK.o [6] [0] [(0, [.d])] ?_;simp [hF, retK, covers, mpre, hc, dHp]

/- (*cabochon/heap.Heap).Take -/
theorem take_ok (h : Hp) (k : Ok h) (hql : h.queue.length ≤ 1000000) : Meets Try.prog 16 [dHp h] (.cons (.ptr 0 [.d]) .nil)
  fun av X κ => av = two (takeOf h).2 ∧ X = [dHp (takeOf h).1] ∧ κ = [(0, [.d])] := by
 have hn0 : 0 < h.next := by have := k.next; omega
 refine fb Try.func16 Try.ntmps16 [.tmp 2, .tmp 3] fun w0 I0 F0 hF => ?_
 repeat first|refine n1 ?_|((first|refine rg 0 [0] [0] [] ?_|refine rg 1 [0] [0, 7] [] ?_);simp (maxSteps := 1000000) [hF])
 refine (real_c h hn0).go [(0, [])] (by simp (maxSteps := 1000000) [hF, dHp]) ?_;rintro av X κ ⟨rfl, rfl, rfl⟩;simp (maxSteps := 1000000) [hF, dHp]
 cases hq : h.queue with
 | nil =>
  have hc : takeOf h = (h, 0, 3) := by simp [takeOf, hq]
  repeat first|refine n1 ?_|refine n2 ?_|((first|refine rg 3 [0] [0, 13] [] ?_|refine rg 4 [] [2, 3] [] ?_|refine nc ?_);simp (maxSteps := 1000000) [hF, dHb, hq])
  refine VS.widen [(0, [.d])] (by simp [covers, mpre]) ?_
  (try refine nr ?_);(repeat first|refine nb_ ?_|refine nl_ ?_);refine endK.o [2, 3] [0] [(0, [.d])] ?_;simp [hF, retK, covers, mpre, hc, dHp, dHb, hq]
 | cons x q =>
  have hc : takeOf h = ({ h with queue := q }, x, 0) := by simp [takeOf, hq]
  have hn0' : (dInts (x :: q)).nth 0 = .val (.int .i64 x) := by rw [dInts_nth (by simp)]; rfl
  have hm : (dInts (x :: q)).mid 1 q.length = dInts q := by rw [ints_mid]; simp
  have c1 : ¬ (q.length : Int) + 1 = 0 := by omega
  repeat first|refine n1 ?_|refine n2 ?_|((first|refine rg 3 [0] [0, 13] [] ?_|refine nc ?_);simp (maxSteps := 1000000) [hF, dHb, hq, c1])
  refine ghostL 0 [.d, .f 6] ?_;simp (maxSteps := 1000000) [hF, St.lift, AV.lift, liftPl, stripP, nodeAV, isNode, dHb, hq]
  repeat first|refine n1 ?_|((first|refine rg 5 [0] [0, 4] [] ?_|refine rg 6 [0, 4] [4] [] ?_|refine rg 7 [4] [2, 3] [] ?_);simp (maxSteps := 1000000) [hF, hn0', hm, c1])
  refine VS.widen [(0, [.d])] (by simp [covers, mpre]) ?_
  (try refine nr ?_);(repeat first|refine nb_ ?_|refine nl_ ?_);refine endK.o [2, 3] [0] [(0, [.d])] ?_;simp [hF, retK, covers, mpre, hc, dHp, dHb, hq]
/- (*cabochon/heap.Heap).Make -/
theorem make_ok (h : Hp) (k : Ok h) (n : Int) (hnx : h.next ≤ 1000000) : Meets Try.prog 32 [dHp h] (.cons (.ptr 0 [.d]) (.cons (avInt n) .nil))
  fun av X κ => av = two (makeOf h n).2 ∧ X = [dHp (makeOf h n).1] ∧ κ = [(0, [.d])] := by
 have hn0 : 0 < h.next := by have := k.next; omega
 obtain ⟨b1, b2, b3, b4⟩ := k.lens
 refine fb Try.func32 Try.ntmps32 [.tmp 4, .tmp 5] fun w0 I0 F0 hF => ?_
 repeat first|refine n1 ?_|((first|refine rg 0 [0, 1] [0, 1] [] ?_|refine rg 1 [0, 1] [0, 1, 17] [(3, 10), (7, 14)] ?_);simp (maxSteps := 1000000) [hF])
 by_cases h1 : n < 1
 ·have hc : makeOf h n = (h, 0, 1) := by simp [makeOf, h1]
  refine (real_c h hn0).go [(0, [])] (by simp (maxSteps := 1000000) [hF, h1, dHp]) ?_;rintro av X κ ⟨rfl, rfl, rfl⟩;simp (maxSteps := 1000000) [hF, h1, dHp]
  repeat first|refine n1 ?_|((first|refine rg 2 [] [4, 5] [] ?_|refine nc ?_);simp (maxSteps := 1000000) [hF])
  refine VS.widen [(0, [.d])] (by simp [covers, mpre]) ?_
  (try refine nr ?_);(repeat first|refine nb_ ?_|refine nl_ ?_);refine endK.o [4, 5] [0] [(0, [.d])] ?_;simp [hF, retK, covers, mpre, hc, dHp]
 by_cases h2 : 8 < n
 ·have hc : makeOf h n = (h, 0, 1) := by simp [makeOf, h2]
  refine (real_c h hn0).go [(0, [])] (by simp (maxSteps := 1000000) [hF, h1, h2, dHp]) ?_;rintro av X κ ⟨rfl, rfl, rfl⟩;simp (maxSteps := 1000000) [hF, h1, h2, dHp]
  repeat first|refine n1 ?_|((first|refine rg 2 [] [4, 5] [] ?_|refine nc ?_);simp (maxSteps := 1000000) [hF])
  refine VS.widen [(0, [.d])] (by simp [covers, mpre]) ?_
  (try refine nr ?_);(repeat first|refine nb_ ?_|refine nl_ ?_);refine endK.o [4, 5] [0] [(0, [.d])] ?_;simp [hF, retK, covers, mpre, hc, dHp]
 obtain ⟨m, rfl⟩ : ∃ m : Nat, n = m := ⟨n.toNat, by omega⟩
 have hw1 : IntKind.i64.wrap ((usedN h.young : Int) + m) = (usedN h.young : Int) + m := IntWalk.i64_in _ (by omega)
 refine (real_c h hn0).go [(0, [])] (by simp (maxSteps := 1000000) [hF, h1, h2, dHp]) ?_;rintro av X κ ⟨rfl, rfl, rfl⟩;simp (maxSteps := 1000000) [hF, h1, h2, dHp]
 by_cases h3 : h.ry < (usedN h.young : Int) + m
 ·have hc : makeOf h m = (h, 0, 9) := by rw [makeOf, if_neg (by omega), if_pos h3]
  repeat first|refine n1 ?_|refine n2 ?_|((first|(refine dr 3 0 [0, 1] [0, 1, 31] [] [⟨0, 1, 262144, 5⟩, ⟨1, 262144, 524288, 5⟩, ⟨2, 524288, 1048576, 5⟩, ⟨4, 1048576, 2097152, 5⟩, ⟨8, 2097152, 4194304, 6⟩, ⟨16, 4194304, 8388608, 0⟩, ⟨0, 2, 16777216, 5⟩, ⟨96, 25165824, 33554432, 5⟩, ⟨0, 1, 67108864, 5⟩, ⟨256, 67108864, 134217728, 5⟩, ⟨512, 134217728, 268435456, 5⟩, ⟨1024, 268435456, 536870912, 5⟩, ⟨2048, 536870912, 1073741824, 6⟩, ⟨4224, 1107296256, 2147483648, 5⟩] (.take 0 (.take 1 (.take 2 (.take 3 (.take 4 (.take 6 (.take 8 (.take 9 (.take 10 (.take 11 (.fork (.alt 5 (.take 7 (.take 12 (.take 13 (.done)))) (.alt 12 (.fork (.alt 5 (.take 7 (.take 13 (.done))) (.nil))) (.nil)))))))))))))) (.run [0, 1, 2, 3, 4, 6, 8, 9, 10, 11] (.both (.run [5, 7, 12, 13] (.done)) (.run [12, 5, 7, 13] (.done)))) ?_;simp only [drs])|refine nc ?_);simp (maxSteps := 1000000) [hF, dHb])
  apply merged
  ·intro key
   (repeat' with_reducible refine And.intro ?_ ?_)
   all_goals (refine (used_c h.young false (by omega) (by omega)).go [(0, [.d, .f 1, .f 0])] (by simp (maxSteps := 1000000) [hF, hw1, h3]) ?_;rintro av X κ ⟨rfl, rfl, rfl⟩;simp (maxSteps := 1000000) [hF, hw1, h3])
   all_goals (refine VS.pick [0, 1, 31] [0] (by simp [hF]) ?_;simp [hF])
   all_goals exact key ()
  repeat first|refine n1 ?_|((first|refine rg 4 [] [4, 5] [] ?_|refine nc ?_);simp (maxSteps := 1000000) [hF, hw1, h3])
  refine VS.widen [(0, [.d])] (by simp [covers, mpre]) ?_
  (try refine nr ?_);(repeat first|refine nb_ ?_|refine nl_ ?_);refine endK.o [4, 5] [0] [(0, [.d])] ?_;simp [hF, retK, covers, mpre, hc, dHp, dHb]
 ·have hc : makeOf h m = ({ h with young := h.young ++ [⟨h.next, 0, List.replicate m 0⟩], next := h.next + 1 }, h.next, 0) := by rw [makeOf, if_neg (by omega), if_neg h3]; simp
  have hz : ∀ X q k, emptySub X k q m true = none := fun X q k => by
   obtain ⟨j, rfl⟩ : ∃ j, m = j + 1 := ⟨m - 1, by omega⟩
   rfl
  have hr : (sq (List.replicate m (.val (.int .i64 0))) : D) = dInts (List.replicate m 0) := by simp [dInts, dInt]
  have hm : (dInts (List.replicate m 0)).mid 0 m = dInts (List.replicate m 0) := by
   have := dInts_mid (List.replicate m 0)
   simpa using this
  have c1 : (m : Int) * 8 ≤ 140737488355328 := by omega
  have c2 : (m : Int) ≤ 9223372036854775807 := by omega
  have hp := dObs_push true h.young h.next 0 (List.replicate m 0)
  have hm2 := dObs_mid1 true h.young ⟨h.next, 0, List.replicate m 0⟩
  have c3 : (h.young.length + 1) * 40 ≤ 140737488355328 := by omega
  have c4 : h.young.length ≤ 9223372036854775806 := by omega
  have hw2 : IntKind.i64.wrap (h.next + 1) = h.next + 1 := IntWalk.i64_in _ (by omega)
  repeat first|refine n1 ?_|refine n2 ?_|((first|(refine dr 3 0 [0, 1] [0, 1, 31] [] [⟨0, 1, 262144, 5⟩, ⟨1, 262144, 524288, 5⟩, ⟨2, 524288, 1048576, 5⟩, ⟨4, 1048576, 2097152, 5⟩, ⟨8, 2097152, 4194304, 6⟩, ⟨16, 4194304, 8388608, 0⟩, ⟨0, 2, 16777216, 5⟩, ⟨96, 25165824, 33554432, 5⟩, ⟨0, 1, 67108864, 5⟩, ⟨256, 67108864, 134217728, 5⟩, ⟨512, 134217728, 268435456, 5⟩, ⟨1024, 268435456, 536870912, 5⟩, ⟨2048, 536870912, 1073741824, 6⟩, ⟨4224, 1107296256, 2147483648, 5⟩] (.take 0 (.take 1 (.take 2 (.take 3 (.take 4 (.take 6 (.take 8 (.take 9 (.take 10 (.take 11 (.fork (.alt 5 (.take 7 (.take 12 (.take 13 (.done)))) (.alt 12 (.fork (.alt 5 (.take 7 (.take 13 (.done))) (.nil))) (.nil)))))))))))))) (.run [0, 1, 2, 3, 4, 6, 8, 9, 10, 11] (.both (.run [5, 7, 12, 13] (.done)) (.run [12, 5, 7, 13] (.done)))) ?_;simp only [drs])|refine nc ?_);simp (maxSteps := 1000000) [hF, dHb])
  apply merged
  ·intro key
   (repeat' with_reducible refine And.intro ?_ ?_)
   all_goals (refine (used_c h.young false (by omega) (by omega)).go [(0, [.d, .f 1, .f 0])] (by simp (maxSteps := 1000000) [hF, hw1, h3]) ?_;rintro av X κ ⟨rfl, rfl, rfl⟩;simp (maxSteps := 1000000) [hF, hw1, h3])
   all_goals (refine VS.pick [0, 1, 31] [0] (by simp [hF]) ?_;simp [hF])
   all_goals exact key ()
  repeat first|refine n1 ?_|refine n2 ?_|((first|(refine dr 5 0 [0, 1] [0, 6] [] [⟨0, 1, 4294967296, 5⟩, ⟨1, 4294967296, 8589934592, 5⟩, ⟨2, 8589934592, 17179869184, 5⟩, ⟨4, 17179869184, 34359738368, 6⟩, ⟨0, 2, 68719476736, 5⟩, ⟨16, 68719476736, 137438953472, 4⟩, ⟨40, 171798691840, 274877906944, 5⟩, ⟨0, 0, 64, 4⟩, ⟨255, 274877907008, 0, 0⟩] (.take 0 (.take 1 (.take 2 (.take 3 (.take 4 (.fork (.alt 5 (.take 6 (.fork (.alt 7 (.fork (.alt 8 (.done) (.nil))) (.nil)))) (.alt 7 (.fork (.alt 5 (.take 6 (.fork (.alt 8 (.done) (.nil)))) (.nil))) (.nil))))))))) (.run [0, 1, 2, 3, 4] (.both (.run [5, 6, 7, 8] (.done)) (.run [7, 5, 6, 8] (.done)))) ?_;simp only [drs])|refine nc ?_);simp (maxSteps := 1000000) [hF, hw1, h3, hz, hr, hm, c1, c2, hw2])
  apply merged
  ·intro key
   (repeat' with_reducible refine And.intro ?_ ?_)
   all_goals (first | (refine VS.pick [0, 6] [0, 2] (by simp [hF]) ?_; simp [hF]; exact key ()) | (refine VS.pick [0, 6] [0, 1] (by simp [hF]) ?_; simp [hF]; exact key ()))
  repeat first|refine n1 ?_|(refine rg 6 [0, 6] [0, 6] [] ?_;simp (maxSteps := 1000000) [hF, hw2])
  refine ghostL 1 [.d, .f 2] ?_;simp (maxSteps := 1000000) [hF, St.lift, AV.lift, liftPl, stripP, nodeAV, isNode]
  refine ghostL 0 [.d, .f 1, .f 0] ?_;simp (maxSteps := 1000000) [hF, St.lift, AV.lift, liftPl, stripP, nodeAV, isNode]
  repeat first|refine n1 ?_|((first|(refine dr 7 0 [0, 6] [6] [] [⟨0, 1, 70368744177664, 5⟩, ⟨0, 1, 140737488355328, 5⟩, ⟨2, 140737488355328, 281474976710656, 5⟩, ⟨4, 281474976710656, 562949953421312, 5⟩, ⟨8, 562949953421312, 1125899906842624, 5⟩, ⟨16, 1125899906842624, 2251799813685248, 6⟩, ⟨0, 64, 4503599627370496, 6⟩, ⟨64, 4503599627370496, 9007199254740992, 4⟩, ⟨160, 11258999068426240, 18014398509481984, 0⟩, ⟨1, 70368744177664, 36028797018963968, 5⟩, ⟨512, 36028797018963968, 72057594037927936, 5⟩, ⟨1535, 72057594037927936, 144115188075855872, 5⟩, ⟨2559, 162129586585337856, 0, 0⟩] (.take 0 (.take 1 (.take 2 (.take 3 (.take 4 (.take 5 (.take 6 (.take 9 (.take 10 (.fork (.alt 7 (.fork (.alt 8 (.take 11 (.fork (.alt 12 (.done) (.nil)))) (.nil))) (.nil)))))))))))) (.run [0, 1, 2, 3, 4, 5, 6, 9, 10, 7, 8, 11, 12] (.done)) ?_;simp only [drs])|refine rg 8 [6] [4, 5] [] ?_);simp (maxSteps := 1000000) [hF, hp, hm, hm2, c3, c4])
  refine VS.widen [(0, [.d])] (by simp [covers, mpre]) ?_
  (try refine nr ?_);(repeat first|refine nb_ ?_|refine nl_ ?_);refine endK.o [4, 5] [0] [(0, [.d])] ?_;simp [hF, retK, covers, mpre, hc, dHp, dHb]

/- (*cabochon/heap.Heap).Roots -/
theorem roots_ok (h : Hp) (k : Ok h) (l : List Int) (ex : Bool) (hll : l.length ≤ 100000000) : Meets Try.prog 21 [dHp h] (.cons (.ptr 0 [.d]) (.cons (.imm 1 (dInts l) ex) .nil))
  fun av X κ => av = avInt (rootsOf h l).2 ∧ X = [dHp (rootsOf h l).1] ∧ κ = [(0, [.d])] := by
 have hn0 : 0 < h.next := by have := k.next; omega
 have hJ : (T.box true () (.junk ()) : D) = dJB := rfl
 refine fb Try.func21 Try.ntmps21 [.tmp 4] fun w0 I0 F0 hF => ?_
 repeat first|refine n1 ?_|((first|refine rg 0 [0, 1] [1, 2] [] ?_|refine rg 1 [1, 2] [1, 2, 16] [(3, 8), (8, 13)] ?_);simp (maxSteps := 1000000) [hF, dHp])
 by_cases h1 : 50 < l.length
 ·have h1i : (50 : Int) < l.length := by omega
  have hc : rootsOf h l = (h, 1) := by simp [rootsOf, h1]
  refine (real_c h hn0).go [(0, [])] (by simp (maxSteps := 1000000) [hF, h1, h1i, dHp]) ?_;rintro av X κ ⟨rfl, rfl, rfl⟩;simp (maxSteps := 1000000) [hF, h1, h1i, dHp]
  repeat first|refine n1 ?_|((first|refine rg 2 [] [4] [] ?_|refine nc ?_);simp (maxSteps := 1000000) [hF])
  refine VS.widen [(0, [.d])] (by simp [covers, mpre]) ?_
  (try refine nr ?_);(repeat first|refine nb_ ?_|refine nl_ ?_);refine endK.o [4] [0] [(0, [.d])] ?_;simp [hF, retK, covers, mpre, hc, dHp]
 have h1i : ¬ (50 : Int) < l.length := by omega
 refine (real_c h hn0).go [(0, [])] (by simp (maxSteps := 1000000) [hF, h1, h1i, dHp]) ?_;rintro av X κ ⟨rfl, rfl, rfl⟩;simp (maxSteps := 1000000) [hF, h1, h1i, dHp]
 cases h2 : l.any (fun x => decide (x < 0)) with
 | true =>
  have hc : rootsOf h l = (h, 1) := by rw [rootsOf, if_pos (.inr h2)]
  refine (containsFunc_r1 ex l hll (fun x => decide (x < 0)) (fun i hi => neg_ok _)).go [] (by simp (maxSteps := 1000000) [hF, h2]) ?_;rintro av X κ ⟨rfl, rfl, rfl⟩;simp (maxSteps := 1000000) [hF, h2]
  repeat first|refine n1 ?_|((first|refine rg 2 [] [4] [] ?_|refine nc ?_);simp (maxSteps := 1000000) [hF])
  refine VS.widen [(0, [.d])] (by simp [covers, mpre]) ?_
  (try refine nr ?_);(repeat first|refine nb_ ?_|refine nl_ ?_);refine endK.o [4] [0] [(0, [.d])] ?_;simp [hF, retK, covers, mpre, hc, dHp]
 | false =>
  refine (containsFunc_r1 ex l hll (fun x => decide (x < 0)) (fun i hi => neg_ok _)).go [] (by simp (maxSteps := 1000000) [hF, h2]) ?_;rintro av X κ ⟨rfl, rfl, rfl⟩;simp (maxSteps := 1000000) [hF, h2]
  repeat first|refine n1 ?_|refine n2 ?_|((first|refine rg 3 [1, 2] [1, 2, 19] [] ?_|refine nc ?_);simp (maxSteps := 1000000) [hF])
  cases h3 : l.any (fun x => !there h x) with
  | true =>
   have hc : rootsOf h l = (h, 3) := by rw [rootsOf, if_neg (by simp only [h2]; simp; omega), if_pos h3]
   refine (containsFunc_r2 ex l h hll (fun x => !there h x) (fun i hi => hasnt_ok h k _)).goP [(0, []), (1, [])] (by simp (maxSteps := 1000000) [hF, plsOk, dHp, dJB, h3]) ?_;rintro av X κ ⟨rfl, rfl, rfl⟩;simp (maxSteps := 1000000) [hF, dHp, dJB, h3]
   repeat first|refine n1 ?_|((first|refine rg 4 [] [4] [] ?_|refine nc ?_);simp (maxSteps := 1000000) [hF])
   refine VS.widen [(0, [.d])] (by simp [covers, mpre]) ?_
   (try refine nr ?_);(repeat first|refine nb_ ?_|refine nl_ ?_);refine endK.o [4] [0] [(0, [.d])] ?_;simp [hF, retK, covers, mpre, hc, dHp]
  | false =>
   have hc : rootsOf h l = ({ h with roots := l }, 0) := by rw [rootsOf, if_neg (by simp only [h2]; simp; omega), if_neg (by simp only [h3]; simp)]
   refine (containsFunc_r2 ex l h hll (fun x => !there h x) (fun i hi => hasnt_ok h k _)).goP [(0, []), (1, [])] (by simp (maxSteps := 1000000) [hF, plsOk, dHp, dJB, h3]) ?_;rintro av X κ ⟨rfl, rfl, rfl⟩;simp (maxSteps := 1000000) [hF, dHp, dJB, h3]
   repeat first|refine n1 ?_|refine n2 ?_|((first|(refine dr 5 4 [1, 2] [] [] [⟨0, 4, 1048576, 6⟩, ⟨0, 2, 2097152, 5⟩, ⟨2, 2097152, 4194304, 0⟩, ⟨7, 1048576, 8388608, 5⟩, ⟨15, 8388608, 16777216, 5⟩, ⟨23, 20971520, 0, 0⟩] (.take 0 (.take 1 (.fork (.alt 2 (.take 3 (.take 4 (.fork (.alt 5 (.done) (.nil))))) (.nil))))) (.run [0, 1] (.chk 2 (.run [2, 3, 4, 5] (.done)))) ?_;simp only [drs])|refine nc ?_);simp (maxSteps := 1000000) [hF, dHb])
   refine (clone_ok ex l hll).go [] (by simp (maxSteps := 1000000) [hF, dHp, dHb]) ?_;rintro av X κ ⟨rfl, rfl, rfl⟩;simp (maxSteps := 1000000) [hF, dHp, dHb]
   repeat first|refine n1 ?_|(refine rg 6 [] [4] [] ?_;simp (maxSteps := 1000000) [hF])
   refine VS.widen [(0, [.d])] (by simp [covers, mpre]) ?_
   (try refine nr ?_);(repeat first|refine nb_ ?_|refine nl_ ?_);refine endK.o [4] [0] [(0, [.d])] ?_;simp [hF, retK, covers, mpre, hc, dHp, dHb]

/- cabochon/heap.New -/
theorem new_bad (a b : Int) (hn : ¬ ((8 ≤ a ∧ a ≤ 1000) ∧ 8 ≤ b ∧ b ≤ 1000)) : Meets Try.prog 28 [] (.cons (avInt a) (.cons (avInt b) .nil)) fun av X κ => av = avTwo avNil 1 ∧ X = [] ∧ κ = [] := by
 obtain ⟨m, hm⟩ : ∃ m, m = if b < a then b else a := ⟨_, rfl⟩
 obtain ⟨n, hn'⟩ : ∃ n, n = if a < b then b else a := ⟨_, rfl⟩
 by_cases h1 : m < 8
 ·refine fb Try.func28 Try.ntmps28 [.tmp 4, .tmp 5] fun w0 I0 F0 hF => ?_
  repeat first|refine n1 ?_|((first|refine rg 0 [0, 1] [0, 1] [] ?_|refine rg 1 [0, 1] [0, 1, 15] [(4, 10)] ?_|refine rg 2 [] [4, 5] [] ?_|refine nc ?_);simp (maxSteps := 1000000) [hF, ← hm, ← hn', h1])
  (try refine nr ?_);(repeat first|refine nb_ ?_|refine nl_ ?_);refine endK.o [4, 5] [] [] ?_;simp [hF, retK, covers, mpre]
 ·have h2 : 1000 < n := by
   split at hm <;> split at hn' <;> omega
  refine fb Try.func28 Try.ntmps28 [.tmp 4, .tmp 5] fun w0 I0 F0 hF => ?_
  repeat first|refine n1 ?_|((first|refine rg 0 [0, 1] [0, 1] [] ?_|refine rg 1 [0, 1] [0, 1, 15] [(4, 10)] ?_|refine rg 2 [] [4, 5] [] ?_|refine nc ?_);simp (maxSteps := 1000000) [hF, ← hm, ← hn', h1, h2])
  (try refine nr ?_);(repeat first|refine nb_ ?_|refine nl_ ?_);refine endK.o [4, 5] [] [] ?_;simp [hF, retK, covers, mpre]
theorem new_ok (a b : Int) (h1 : 8 ≤ a ∧ a ≤ 1000) (h2 : 8 ≤ b ∧ b ≤ 1000) : Meets Try.prog 28 [] (.cons (avInt a) (.cons (avInt b) .nil)) fun av X κ => av = avTwo (.ptr 0 [.d]) 0 ∧ X = [dHp (bornOf a b)] ∧ κ = [] := by
 obtain ⟨m, hm⟩ : ∃ m, m = if b < a then b else a := ⟨_, rfl⟩
 obtain ⟨n, hn'⟩ : ∃ n, n = if a < b then b else a := ⟨_, rfl⟩
 have g1 : ¬ m < 8 := by split at hm <;> omega
 have g2 : ¬ 1000 < n := by split at hn' <;> omega
 refine fb Try.func28 Try.ntmps28 [.tmp 4, .tmp 5] fun w0 I0 F0 hF => ?_
 repeat first|refine n1 ?_|refine n2 ?_|((first|refine rg 0 [0, 1] [0, 1] [] ?_|refine rg 1 [0, 1] [0, 1, 15] [(4, 10)] ?_|refine rg 3 [0, 1] [4, 5] [] ?_|refine nc ?_);simp (maxSteps := 1000000) [hF, ← hm, ← hn', g1, g2])
 (try refine nr ?_);(repeat first|refine nb_ ?_|refine nl_ ?_);refine endK.o [4, 5] [0] [] ?_;simp [hF, retK, covers, mpre, dHp, dHb, bornOf]
/-- A heap whose spaces are anyhow. -/
def dHx (d0 d1 : D) (h : Hp) : D := .box true () (.agg (.cons (.agg (.cons (.val (.int .i64 h.ry)) (.cons (.val (.int .i64 h.ro)) .nil))) (.cons (.agg (.cons d0 (.cons d1 .nil))) (.cons (.val (.int .i64 h.next))
 (.cons (.sl true () 1 (dInts h.roots)) (.cons (.sl true () 2 (dEns h.weak)) (.cons (.sl true () 2 (dEns h.fins)) (.cons (.sl true () 1 (dInts h.queue)) .nil))))))))
@[simp high] theorem head_dHx (d0 d1 : D) (h : Hp) : isHead (dHx d0 d1 h) = true := by rw [dHx, isHead]
def dSB (S : List Int) : D := .box true () (dSn S)
def dBB (b : Bool) : D := .box true () (.val (.bool b))
@[simp high] theorem head_dSB (S : List Int) : isHead (dSB S) = true := by rw [dSB, isHead]
@[simp high] theorem head_dBB (b : Bool) : isHead (dBB b) = true := by rw [dBB, isHead]

/- (*cabochon/heap.Heap).cleared -/
theorem cleared_ok (d0 d1 : D) (h0 : d0.width = 1) (h1 : d1.width = 1) (h : Hp) (hwl : h.weak.length ≤ 1000000) (x : Int) : Meets Try.prog 75 [dHx d0 d1 h] (.cons (.ptr 0 [.d]) (.cons (avInt x) .nil))
  fun av X κ => X = [dHx d0 d1 { h with weak := h.weak.map (clr1 x) }] ∧ κ = [(0, [.d, .f 4, .i 0])] := by
 refine fb Try.func75 Try.ntmps75 [] fun w0 I0 F0 hF => ?_
 repeat first|refine n1 ?_|refine n3 ?_|(refine rg 0 [0, 1] [0, 1, 9, 10] [] ?_;simp (maxSteps := 1000000) [hF, dHx, h0, h1])
 refine VS.widen [(0, [.d, .f 4, .i 0])] (by simp [covers, mpre]) ?_
 refine VS.rounds (fun m st => ∃ (i : Nat) (W : List (Int × Int)), i + m = h.weak.length ∧ W = upt (clr1 x) h.weak i ∧ st = ⟨[(0, .ptr 0 [.d]), (1, avInt x), (9, avInt h.weak.length), (10, avInt i)], [dHx d0 d1 { h with weak := W }], [(0, [.d, .f 4, .i 0])], []⟩) ⟨h.weak.length, 0, h.weak, by omega, (upt_zero _ _).symm, by simp [dHx]⟩ ?_
 rintro m st ⟨i, W, hi, hW, rfl⟩
 have hWl : W.length = h.weak.length := by rw [hW]; simp
 repeat first|refine n1 ?_|((first|refine rg 1 [0, 1, 9, 10] [0, 1, 9, 10, 11] [] ?_|refine nc ?_);simp (maxSteps := 1000000) [hF])
 refine ⟨fun hlt => ?_, fun hge => ?_⟩
 ·have hlW : i < W.length := by omega
  have hat : W[i] = h.weak[i] := by subst hW; exact upt_at hlt
  have hn := dEns_nth hlW
  rw [hat] at hn
  have hw : IntKind.i64.wrap ((i : Int) + 1) = (i + 1 : Nat) := by rw [IntWalk.i64_in _ (by omega)]; rfl
  have hs2 := dEns_set W i 0 h.weak[i].2
  by_cases he : h.weak[i].1 = x
  ·have hst : W.set i (0, h.weak[i].2) = upt (clr1 x) h.weak (i + 1) := by rw [← upt_set hlt, hW]; simp [clr1, he]
   repeat first|refine n1 ?_|refine n2 ?_|refine n3 ?_|refine n4 ?_|refine n5 ?_|((first|refine rg 2 [0, 1, 9, 10] [0, 1, 4, 9, 10] [] ?_|refine rg 3 [0, 1, 4, 9, 10] [0, 1, 4, 9, 10, 22] [] ?_|refine rg 4 [0, 1, 4, 9, 10] [0, 1, 9, 10] [] ?_|refine nc ?_);simp (maxSteps := 1000000) [hF, dHx, h0, h1, hn, hlW, he, hs2])
   refine VS.widen [(0, [.d, .f 4, .i 0])] (by simp [covers, mpre]) ?_
   repeat first|refine n4 ?_|refine n6 ?_|(refine rg 5 [0, 1, 9, 10] [0, 1, 9, 10] [] ?_;simp (maxSteps := 1000000) [hF, hw])
   refine nextK.of [0, 1, 9, 10] [0] (m - 1) (by omega) (by simp [hF]) ?_
   exact ⟨i + 1, _, by omega, hst, by simp [dHx]⟩
  ·have hst : W = upt (clr1 x) h.weak (i + 1) := by rw [upt_skip hlt (by simp [clr1, he]), hW]
   repeat first|refine n1 ?_|refine n2 ?_|refine n3 ?_|refine n4 ?_|refine n5 ?_|refine n6 ?_|((first|refine rg 2 [0, 1, 9, 10] [0, 1, 4, 9, 10] [] ?_|refine rg 3 [0, 1, 4, 9, 10] [0, 1, 4, 9, 10, 22] [] ?_|refine rg 5 [0, 1, 9, 10] [0, 1, 9, 10] [] ?_|refine nc ?_);simp (maxSteps := 1000000) [hF, dHx, h0, h1, hn, hlW, he, hw])
   refine nextK.of [0, 1, 9, 10] [0] (m - 1) (by omega) (by simp [hF]) ?_
   exact ⟨i + 1, W, by omega, hst, by simp [dHx]⟩
 ·have hf : W = h.weak.map (clr1 x) := by rw [hW, upt_all _ (by omega)]
  repeat first|refine n4 ?_|refine n7 ?_
  (try refine nr ?_);(repeat first|refine nb_ ?_|refine nl_ ?_);refine endK.o [] [0] [(0, [.d, .f 4, .i 0])] ?_;simp [hF, retK, covers, mpre, dHx, hf]

/-- Whether an object is dead. -/
def deadV (h : Hp) (S : List Int) (minor : Bool) (x : Int) : Bool := there h x && !(decide (x ∈ S) || (minor && inL h.old x))
/- (*cabochon/heap.Heap).live$1 -/
theorem dead_ok (h : Hp) (k : Ok h) (S : List Int) (minor : Bool) (x : Int) : MeetsP Try.prog 95 [dHp h, dJB, dSB S, dBB minor] [(1, [.d], .ptr 0 [.d])] (.cons (avInt x) (.cons (.ptr 1 [.d]) (.cons (.ptr 2 [.d]) (.cons (.ptr 3 [.d]) .nil))))
  fun av X κ => av = avBool (deadV h S minor x) ∧ X = [dHp h, dJB, dSB S, dBB minor] ∧ κ = [] := by
 refine fbP Try.func95 Try.ntmps95 [.tmp 5] fun w0 I0 F0 hF => ?_
 repeat first|refine n1 ?_|((first|refine rg 0 [0, 1, 2, 3] [0, 1, 2, 3] [] ?_|refine rg 1 [0, 1, 2, 3] [0, 2, 3, 6, 8] [] ?_);simp (maxSteps := 1000000) [hF, dJB, dHp])
 cases ht : there h x with
 | false =>
  have hf := fd_none ht
  have hc : deadV h S minor x = false := by simp [deadV, ht]
  refine (find_c h k x).go [(0, [])] (by simp (maxSteps := 1000000) [hF, dJB, dHp, hf]) ?_;rintro av X κ ⟨rfl, rfl, rfl⟩;simp (maxSteps := 1000000) [hF, dJB, dHp, hf]
  repeat first|refine n1 ?_|(refine rg 2 [0, 2, 3, 6, 8] [5] [(1, 17), (7, 23), (9, 25)] ?_;simp (maxSteps := 1000000) [hF])
  (try refine nr ?_);(repeat first|refine nb_ ?_|refine nl_ ?_);refine endK.o [5] [0, 1, 2, 3] [] ?_;simp [hF, retK, covers, mpre, hc, dJB, dHp]
 | true =>
  rcases there_or k ht with ⟨i, hi, hy, hix, hf, hso, hup⟩ | ⟨i, hi, hy, hix, hf, hso, hup⟩
  ·have hno := dist_apart k.dist hy
   by_cases hs : x ∈ S
   ·have hfy := snE_yes hs
    refine (find_c h k x).go [(0, [])] (by simp (maxSteps := 1000000) [hF, dJB, dHp, hf]) ?_;rintro av X κ ⟨rfl, rfl, rfl⟩;simp (maxSteps := 1000000) [hF, dJB, dHp, hf]
    repeat first|refine n1 ?_|(refine rg 2 [0, 2, 3, 6, 8] [5] [(1, 17), (7, 23), (9, 25)] ?_;simp (maxSteps := 1000000) [hF, dSB, dSn, hfy])
    (try refine nr ?_);(repeat first|refine nb_ ?_|refine nl_ ?_);refine endK.o [5] [0, 1, 2, 3] [] ?_;simp [hF, retK, covers, mpre, dJB, dHp, dSB, dSn, hs, deadV, ht]
   ·have hfn := snE_no hs
    cases minor with
    | true =>
     refine (find_c h k x).go [(0, [])] (by simp (maxSteps := 1000000) [hF, dJB, dHp, hf]) ?_;rintro av X κ ⟨rfl, rfl, rfl⟩;simp (maxSteps := 1000000) [hF, dJB, dHp, hf]
     repeat first|refine n1 ?_|(refine rg 2 [0, 2, 3, 6, 8] [5] [(1, 17), (7, 23), (9, 25)] ?_;simp (maxSteps := 1000000) [hF, dSB, dSn, dBB, hfn])
     (try refine nr ?_);(repeat first|refine nb_ ?_|refine nl_ ?_);refine endK.o [5] [0, 1, 2, 3] [] ?_;simp [hF, retK, covers, mpre, dJB, dHp, dSB, dSn, dBB, hs, hno, deadV, ht]
    | false =>
     refine (find_c h k x).go [(0, [])] (by simp (maxSteps := 1000000) [hF, dJB, dHp, hf]) ?_;rintro av X κ ⟨rfl, rfl, rfl⟩;simp (maxSteps := 1000000) [hF, dJB, dHp, hf]
     repeat first|refine n1 ?_|(refine rg 2 [0, 2, 3, 6, 8] [5] [(1, 17), (7, 23), (9, 25)] ?_;simp (maxSteps := 1000000) [hF, dSB, dSn, dBB, hfn])
     (try refine nr ?_);(repeat first|refine nb_ ?_|refine nl_ ?_);refine endK.o [5] [0, 1, 2, 3] [] ?_;simp [hF, retK, covers, mpre, dJB, dHp, dSB, dSn, dBB, hs, hno, deadV, ht]
  ·have ho : inL h.old x = true := by simpa [there, hy] using ht
   by_cases hs : x ∈ S
   ·have hfy := snE_yes hs
    refine (find_c h k x).go [(0, [])] (by simp (maxSteps := 1000000) [hF, dJB, dHp, hf]) ?_;rintro av X κ ⟨rfl, rfl, rfl⟩;simp (maxSteps := 1000000) [hF, dJB, dHp, hf]
    repeat first|refine n1 ?_|(refine rg 2 [0, 2, 3, 6, 8] [5] [(1, 17), (7, 23), (9, 25)] ?_;simp (maxSteps := 1000000) [hF, dSB, dSn, hfy])
    (try refine nr ?_);(repeat first|refine nb_ ?_|refine nl_ ?_);refine endK.o [5] [0, 1, 2, 3] [] ?_;simp [hF, retK, covers, mpre, dJB, dHp, dSB, dSn, hs, deadV, ht]
   ·have hfn := snE_no hs
    cases minor with
    | true =>
     refine (find_c h k x).go [(0, [])] (by simp (maxSteps := 1000000) [hF, dJB, dHp, hf]) ?_;rintro av X κ ⟨rfl, rfl, rfl⟩;simp (maxSteps := 1000000) [hF, dJB, dHp, hf]
     repeat first|refine n1 ?_|(refine rg 2 [0, 2, 3, 6, 8] [5] [(1, 17), (7, 23), (9, 25)] ?_;simp (maxSteps := 1000000) [hF, dSB, dSn, dBB, hfn])
     (try refine nr ?_);(repeat first|refine nb_ ?_|refine nl_ ?_);refine endK.o [5] [0, 1, 2, 3] [] ?_;simp [hF, retK, covers, mpre, dJB, dHp, dSB, dSn, dBB, hs, ho, deadV, ht]
    | false =>
     refine (find_c h k x).go [(0, [])] (by simp (maxSteps := 1000000) [hF, dJB, dHp, hf]) ?_;rintro av X κ ⟨rfl, rfl, rfl⟩;simp (maxSteps := 1000000) [hF, dJB, dHp, hf]
     repeat first|refine n1 ?_|(refine rg 2 [0, 2, 3, 6, 8] [5] [(1, 17), (7, 23), (9, 25)] ?_;simp (maxSteps := 1000000) [hF, dSB, dSn, dBB, hfn])
     (try refine nr ?_);(repeat first|refine nb_ ?_|refine nl_ ?_);refine endK.o [5] [0, 1, 2, 3] [] ?_;simp [hF, retK, covers, mpre, dJB, dHp, dSB, dSn, dBB, hs, ho, deadV, ht]

@[simp] theorem own_sn (S : List Int) : (dSn S).allOwn = true := by
 have : (snE S).allOwn = true := own_sq fun x hx => by obtain ⟨c, _, rfl⟩ := List.mem_map.1 hx; simp [T.allOwn]
 simp [dSn, T.allOwn, this]
theorem reach_c (h : Hp) (k : Ok h) (minor : Bool) (from_ : List Int) (ex : Bool) (hfl : from_.length ≤ 10000000) (S0 : List Int) (hS0 : ∀ x ∈ S0, ∀ y ∈ slotsOf h x, skipP h minor y = false → y ∈ S0) :
  Meets Try.prog 44 [dHp h, dSn S0] (.cons (.ptr 0 [.d]) (.cons (.imm 1 (dInts from_) ex) (.cons (.mp 1 []) (.cons (avBool minor) .nil))))
  fun av X κ => ∃ S, Dfs (obs h) (skipP h minor) S0 from_ S [] ∧ X = [dHp h, dSn S] ∧ κ = [(1, [.i 0])] := by
 have e : (AV.cons (.ptr 0 [.d]) (.cons (.imm 1 (dInts from_) ex) (.cons (.mp 1 []) (.cons (avBool minor) .nil)))).chilled (dHp h) = .cons (avH h) (.cons (.imm 1 (dInts from_) ex) (.cons (.mp 0 []) (.cons (avBool minor) .nil))) := by rw [chillH]; rfl
 refine Meets.mono (Meets.warmK (d0 := dHp h) (Y := [dSn S0]) (by rw [e]; exact reach_ok h k minor from_ ex hfl S0 hS0) ?_) ?_
 ·rintro av X κ ⟨S, hS, rfl, rfl, rfl⟩
  exact ⟨rfl, by simp⟩
 ·rintro av X κ ⟨av0, X0, κ0, ⟨S, hS, rfl, rfl, rfl⟩, rfl, rfl, rfl⟩
  exact ⟨S, hS, rfl, rfl⟩
theorem remembered_c (h : Hp) (k : Ok h) : Meets Try.prog 35 [dHp h] (.cons (.ptr 0 [.d]) .nil) fun av X κ => av = .sub 1 [] 0 (remembOf h).length false ∧ X = [dHp h, .sl true () 1 (dInts (remembOf h))] ∧ κ = [] :=
 warmH (remembered_ok h k) rfl rfl (by simp [T.allOwn]) rfl
end Go.Proofs.Ytfdcfjjobdnofaa
