/- The library's sort of texts, in place: the kit's contract, carried over. -/
import Derived.Test.YtipokdbfdingmaaGreatK4
import Derived.Test.YtipokdbfdingmaaGreatK5
import Derived.Shelf.Sort.Plain
import Derived.Shelf.SlMaps.Clone
import Derived.Test.YtipokdbfdingmaaGreatK3
import Derived.Shelf.SlIter.Sorted
import Derived.Shelf.SlIter.AllValuesS
import Derived.Shelf.Spec.SlicesInsertGrow
import Derived.Shelf.Slices.CompactS
import Derived.Lib.RowBridge
import Derived.Shelf.Spec.SearchS
import Derived.Sort.Walk0
import Derived.IntWalk
import Derived.Lib.SlicesCompact
import Derived.RangeFuncBox
import Derived.RangeFuncLeaves
import Derived.Shelf.Abstract
import Derived.WalkKit
import Derived.OwnWalkIn
import Derived.TacticsInMore
import Derived.LoopNIn
import Derived.LoopIn
import Derived.Shelf.SortM.Plain
import Derived.Shelf.SortM.SortNone
namespace Go.Vc
set_option linter.all false
open Go.Proofs Go.Shelf Go.Sort Go.RowKit
open T (hdr blk)
def strs (l : List ByteArray) : D := sq (l.map fun n => .val (.string n))
def leB (a b : ByteArray) : Bool := !Op.bytesLess b.toList a.toList
theorem enc_str (s : ByteArray) : encStr s.toList = .string s := by
  show Value.string ⟨s.toList.toArray⟩ = .string s
  rw [Go.ByteArray.toList_eq]
def strs0 : List ByteArray → G
  | [] => .nil
  | n :: l => .cons (.val (.string n)) (strs0 l)
theorem strs0_erase : ∀ l : List ByteArray, (strs0 l).erase = strs l
  | [] => rfl
  | n :: l => by simp only [strs0, T.erase, strs0_erase l]; rfl
theorem strs0_of : ∀ {s : G} {l : List ByteArray}, s.erase = strs l → s = strs0 l
  | s, [], h => erase_nil h
  | s, n :: l, h => by
    obtain ⟨a, t, rfl, h1, h2⟩ := erase_cons h
    rw [erase_val h1, strs0_of h2]; rfl
theorem strs0_cells : ∀ l : List ByteArray, (strs0 l).cells = l.map Value.string
  | [] => rfl
  | n :: l => by simp [strs0, T.cells, strs0_cells l]
theorem strs0_len : ∀ l : List ByteArray, (strs0 l).len = l.length
  | [] => rfl
  | n :: l => by simp [strs0, T.len, strs0_len l]
theorem strs0_holds (h : Array Obj) (I : Nat → Prop) : ∀ l : List ByteArray, T.Holds h I (strs0 l)
  | [] => trivial
  | n :: l => ⟨rfl, strs0_holds h I l⟩
theorem strs0_uni : ∀ l : List ByteArray, (strs0 l).uni 1
  | [] => trivial
  | n :: l => ⟨rfl, strs0_uni l⟩
theorem strs0_owned : ∀ l : List ByteArray, (strs0 l).owned = []
  | [] => rfl
  | n :: l => by simp [strs0, T.owned, strs0_owned l]
theorem Meets.sortStrs {P : Program} {ρ : Ren} (Ly : Lays.n190 P ρ) (hb : HasBody P (ρ.f 190)) (l : List ByteArray) (ex : Bool) (h0 : 0 < l.length) (hl : l.length ≤ 1000000000) :
    Meets P (ρ.f 190) [.sl true () 1 (strs l)] (.cons (.sub 0 [] 0 l.length ex) .nil) fun av X κ => av = .tup .nil ∧ X = [.sl true () 1 (strs (l.mergeSort leB))] ∧ κ = [(0, [.i 0])] := by
  refine ⟨hb, fun w I F0 vs hY hH hnd hap hlt hilt hvs => ?_⟩
  obtain ⟨g0, rfl⟩ : ∃ g0, F0 = [g0] := by
    rcases F0 with _ | ⟨g, _ | ⟨_, _⟩⟩
    · simp at hY
    · exact ⟨g, rfl⟩
    · simp at hY
  obtain ⟨a, s, rfl, hs⟩ : ∃ a s, g0 = .sl true a 1 s ∧ s.erase = strs l := by
    simp only [List.map_cons, List.map_nil, List.cons.injEq, and_true] at hY
    cases g0 <;> simp only [T.erase, reduceCtorEq, T.sl.injEq] at hY
    obtain ⟨rfl, _, rfl, h⟩ := hY
    exact ⟨_, _, rfl, h⟩
  obtain rfl := strs0_of hs
  have hg := hH _ (List.mem_singleton.2 rfl)
  obtain ⟨q1, q2, q3, q4⟩ := id hg
  have hlen := strs0_len l
  obtain ⟨x, c, rfl, hsp, row, e, hrow, hsz, hcell⟩ : ∃ (x : Addr) (c : Nat), a = .slice (some x) l.length (c + 1) ∧ x.spot = none ∧ ∃ row e, w.heap[x.block]? = some (.cells row e (0, 0)) ∧ x.off + (c + 1) ≤ row.size ∧ ∀ j v, (strs0 l).cells[j]? = some v → row[x.off + j]? = some v := by
    split at q4
    · omega
    · omega
    · rename_i x n c
      obtain ⟨h1, h2, h3, h4, h5, row, e, fr, h6, h7, h8, h9⟩ := q4
      obtain rfl := h7 rfl
      rw [hlen] at h2
      subst h2
      exact ⟨x, c, rfl, h1, row, e, h6, by omega, h9⟩
    · exact q4.elim
  obtain ⟨v, vs', rfl, hv, hvn⟩ := hvs
  obtain rfl : vs' = [] := hvn
  obtain ⟨own', a', z', len', v', hh, hvv, hsub⟩ := hv
  simp only [hdrF, List.getElem?_cons_zero, Option.bind_some, T.at_, hdr, Option.some.injEq, Prod.mk.injEq] at hh
  obtain ⟨rfl, rfl, rfl, rfl⟩ := hh
  simp only [List.cons.injEq, and_true] at hvv
  subst hvv
  obtain ⟨A, cc, rfl, k1, k2, k3, k4, k5⟩ := hsub
  obtain ⟨y, rfl, y1, y2, y3, y4, y5⟩ := k5
  have hy5 := y5 (by omega)
  obtain ⟨yb, yo, ys⟩ := y
  simp only at y1 y2 hy5
  subst y1; subst y2
  obtain rfl : yo = x.off := by omega
  have hbs : x.block < w.heap.size := (Array.getElem?_eq_some_iff.1 hrow).1
  have hcl : ∀ j, (hj : j < l.length) → row[x.off + j]? = some (Value.string l[j]) := fun j hj => hcell j _ (by rw [strs0_cells]; simp [hj])
  obtain ⟨M, hM⟩ : ∃ M, M = l.mergeSort leB := ⟨_, rfl⟩
  have hMl : M.length = l.length := by rw [hM, List.length_mergeSort]
  obtain ⟨S, hS⟩ : ∃ S, S = l.map ByteArray.toList := ⟨_, rfl⟩
  have hSl : S.length = l.length := by rw [hS, List.length_map]
  have hHk : Go.Sort.Holds encStr w x.block x.off S.toArray := fun j hj => by
    have hj' : j < l.length := by rw [← hSl]; simpa using hj
    have h1 := hcl j hj'
    have h2 : encStr S.toArray[j]! = Value.string l[j] := by
      rw [getElem!_pos _ j hj]
      simp only [hS, List.getElem_toArray, List.getElem_map]
      exact enc_str _
    refine ⟨?_, ?_⟩
    · rw [h2]
      simp [World.cell?, hrow, h1]
    · simp [World.frozen?, hrow]
  have hSM : (S.mergeSort fun x y => decide (x ≤ y)) = M.map ByteArray.toList := by
    rw [hS, hM]
    refine (List.map_mergeSort fun a _ b _ => ?_).symm
    show leB a b = _
    rw [leB, bytesLess_eq, ← decide_not]
    exact decide_eq_decide.2 List.not_lt
  obtain ⟨M', hM'⟩ : ∃ M' : List (List UInt8), M' = M.map ByteArray.toList := ⟨_, rfl⟩
  have hMl' : M'.length = l.length := by rw [hM', List.length_map, hMl]
  rw [← hM'] at hSM
  have hcall := Any.slices_Sort_string Ly x.block x.off cc S w hHk hbs (by omega)
  rw [hSl] at hcall
  refine hcall.mono ?_
  rintro e' w' ⟨rfl, n, os, rfl⟩
  rw [hSM]
  rw [← hM]
  have hheap : (grow (putRow encStr (Go.Sort.ahead w n) x.block x.off M'.toArray) os).heap = w.heap.modify x.block (onCells (putCells encStr x.off M'.toArray)) ++ os := rfl
  have hsz2 : w.heap.size ≤ (grow (putRow encStr (Go.Sort.ahead w n) x.block x.off M'.toArray) os).heap.size := by rw [hheap]; simp
  have hat : (grow (putRow encStr (Go.Sort.ahead w n) x.block x.off M'.toArray) os).heap[x.block]? = some (.cells (putCells encStr x.off M'.toArray row) e (0, 0)) := by
    rw [hheap, Array.getElem?_append_left (by simpa using hbs), Array.getElem?_modify, if_pos rfl, hrow]; rfl
  have hot : ∀ b, b < w.heap.size → b ≠ x.block → (grow (putRow encStr (Go.Sort.ahead w n) x.block x.off M'.toArray) os).heap[b]? = w.heap[b]? := fun b hb hne => by
    rw [hheap, Array.getElem?_append_left (by simpa using hb), Array.getElem?_modify, if_neg (Ne.symm hne)]
  have hown : own [T.sl true (Value.slice (some x) l.length (c + 1)) 1 (strs0 l)] = [x.block] := by simp [own, T.owned, strs0_owned, T.blk]
  have hown2 : own [T.sl true (Value.slice (some x) l.length (c + 1)) 1 (strs0 M)] = [x.block] := by simp [own, T.owned, strs0_owned, T.blk]
  rw [hown] at hnd hap hlt
  have hIx : ∀ b, I b → (grow (putRow encStr (Go.Sort.ahead w n) x.block x.off M'.toArray) os).heap[b]? = w.heap[b]? := fun b hb => hot b (hilt b hb) fun e => hap x.block (by simp) (e ▸ hb)
  refine ⟨.tuple #[], .tup .nil, _, _, I, [.sl true (.slice (some x) l.length (c + 1)) 1 (strs0 M)], rfl, ⟨rfl, rfl, rfl⟩, ⟨?_, ?_, ?_, ?_, ?_, ?_, rfl, rfl, rfl, hsz2, ?_, ?_, fun _ h => h, fun b h => .inl h, ?_⟩, ?_⟩
  · simp [T.erase, strs0_erase]
  · intro g hg'
    rw [List.mem_singleton] at hg'
    subst hg'
    refine ⟨strs0_holds _ _ _, strs0_uni _, (fun h => by cases h), ?_⟩
    have hMn : (strs0 M).len = l.length := by rw [strs0_len, hMl]
    refine ⟨hsp, hMn.symm, by omega, by omega, (fun h => by cases h), _, e, (0, 0), hat, fun _ => rfl, ?_, ?_⟩
    · simp only [putCells, Array.size_mapIdx]; omega
    · intro j v hj
      rw [strs0_cells, List.getElem?_map] at hj
      by_cases hjl : j < M.length
      · rw [List.getElem?_eq_getElem hjl, Option.map_some, Option.some.injEq] at hj
        have h1 := hcl j (by omega)
        simp only [putCells, Array.getElem?_mapIdx, h1, Option.map_some, Option.some.injEq]
        rw [if_pos ⟨by omega, by simp; omega⟩, ← hj, show x.off + j - x.off = j by omega, getElem!_pos _ j (by simp; omega)]
        simp only [hM', List.getElem_toArray, List.getElem_map]
        exact enc_str _
      · rw [List.getElem?_eq_none (by omega)] at hj; cases hj
  · rw [hown2]; exact hnd
  · rw [hown2]; exact hap
  · rw [hown2]; exact fun b hb => Nat.lt_of_lt_of_le (hlt b hb) hsz2
  · exact fun b hb => Nat.lt_of_lt_of_le (hilt b hb) hsz2
  · intro b hb hbn
    refine hot b hb fun e => hbn ?_
    show b ∈ own [T.sl true (Value.slice (some x) l.length (c + 1)) 1 (strs0 l)]
    rw [hown, e]; simp
  · rw [hown2]; intro b hb _
    show b ∈ own [T.sl true (Value.slice (some x) l.length (c + 1)) 1 (strs0 l)]
    rw [hown]; exact hb
  · intro k g0 hk
    cases k with
    | succ k => simp at hk
    | zero =>
      simp only [List.getElem?_cons_zero, Option.some.injEq] at hk
      subst hk
      refine ⟨_, rfl, rfl, fun q hq => ?_, fun q hq => ?_, fun q v hq hd => ?_⟩
      · cases q with
        | nil => rfl
        | cons st q =>
          cases st with
          | f i => rfl
          | d => rfl
          | i k =>
            cases q with
            | cons st' q => simp [dead, mpre] at hq
            | nil =>
              simp only [T.loc, strs0_len, hMl]
      · cases q with
        | nil => simp only [T.at_, hdr, strs0_len, hMl]
        | cons st q =>
          cases st with
          | f i => rfl
          | d => rfl
          | i k => simp [dead, mpre] at hq
      · cases q with
        | nil => simp [T.at_] at hq
        | cons st q =>
          cases st with
          | f i => simp [T.at_] at hq
          | d => simp [T.at_] at hq
          | i k => simp [dead, mpre] at hd
  · exact ⟨[], rfl, rfl⟩
end Go.Vc

/- The library's copy of a map: the kit's contract, carried over. -/
namespace Go.Vc
set_option linter.all false
open Go.Proofs Go.Shelf Go.RowKit
open T (hdr blk)
theorem free_erase : ∀ g : G, g.erase.free = g.free := by
  intro g
  induction g with
  | cons a t iha iht => simp [T.erase, T.free, iha, iht]
  | agg s ih => simp [T.erase, T.free, ih]
  | sl o a z s ih => simp [T.erase, T.free, ih]
  | box o a s ih => simp [T.erase, T.free, ih]
  | map o a s ih => simp [T.erase, T.free, ih]
  | val v => rfl
  | junk v => rfl
  | nil => rfl
theorem heap_alloc_lt {w : World} {o : Obj} {b : Nat} (h : b < w.heap.size) : (w.alloc o).heap[b]? = w.heap[b]? := Below.heap_alloc _ _ b h
theorem Meets.cloneMap {P : Program} {ρ : Ren} (Ly : SlLaysW.n5 P ρ) (hb : HasBody P (ρ.f 5)) (m : D) (hm : m.free = true) :
    Meets P (ρ.f 5) [.map true () m] (.cons (.mp 0 []) .nil) fun av X κ => av = .mp 1 [] ∧ X = [.map true () m, .map true () m] ∧ κ = [] := by
  refine ⟨hb, fun w I F0 vs hY hH hnd hap hlt hilt hvs => ?_⟩
  obtain ⟨g0, rfl⟩ : ∃ g0, F0 = [g0] := by
    rcases F0 with _ | ⟨g, _ | ⟨_, _⟩⟩
    · simp at hY
    · exact ⟨g, rfl⟩
    · simp at hY
  obtain ⟨a, s, rfl, hs⟩ : ∃ a s, g0 = .map true a s ∧ s.erase = m := by
    simp only [List.map_cons, List.map_nil, List.cons.injEq, and_true] at hY
    cases g0 <;> simp only [T.erase, reduceCtorEq, T.map.injEq] at hY
    obtain ⟨rfl, _, h⟩ := hY
    exact ⟨_, _, rfl, h⟩
  have hso : s.owned = [] := T.owned_free (by rw [← free_erase, hs]; exact hm)
  have hg := hH _ (List.mem_singleton.2 rfl)
  obtain ⟨q1, q2, q3⟩ := id hg
  obtain ⟨r, es, c, rfl, hr, he⟩ : ∃ r es c, a = .map (some r) ∧ w.heap[r]? = some (.map es c) ∧ T.entriesAre es.toList s ∧ MapKept.Stamped es c := by
    split at q3
    · obtain ⟨_, es, c, h1, h2⟩ := q3
      exact ⟨_, es, c, rfl, h1, h2⟩
    · exact q3.elim
  obtain ⟨v, vs', rfl, hv, hvn⟩ := hvs
  obtain rfl : vs' = [] := hvn
  obtain ⟨own', r', z', len', hh, hvv⟩ := hv
  simp only [hdrF, List.getElem?_cons_zero, Option.bind_some, T.at_, hdr, Option.some.injEq, Prod.mk.injEq, Value.map.injEq] at hh
  obtain ⟨rfl, rfl, rfl, rfl⟩ := hh
  simp only [List.cons.injEq, and_true] at hvv
  subst hvv
  have hrs : r < w.heap.size := (Array.getElem?_eq_some_iff.1 hr).1
  refine (AnyW.maps_Clone Ly r es c w hr).mono ?_
  rintro e' w' ⟨rfl, rfl⟩
  have hsz : (w.alloc (.map es c)).heap.size = w.heap.size + 1 := World.size_alloc _ _
  have hown : own [T.map true (Value.map (some r)) s] = [r] := by simp [own, T.owned, hso, T.blk]
  have hown2 : own [T.map true (Value.map (some r)) s, T.map true (Value.map (some w.heap.size)) s] = [r, w.heap.size] := by simp [own, T.owned, hso, T.blk]
  rw [hown] at hnd hap hlt
  have hnew : (w.alloc (.map es c)).heap[w.heap.size]? = some (.map es c) := World.alloc_heap_new w _
  have hs2 : T.Holds (w.alloc (.map es c)).heap I s := q1.agree (by rw [hso]; intro b hb; cases hb) (fun b hb => heap_alloc_lt (hilt b hb)) fun _ h => h
  refine ⟨.map (some w.heap.size), .mp 1 [], _, _, I, [.map true (.map (some r)) s, .map true (.map (some w.heap.size)) s], rfl, ⟨rfl, rfl, rfl⟩, ⟨?_, ?_, ?_, ?_, ?_, ?_, rfl, rfl, rfl, ?_, ?_, ?_, fun _ h => h, fun b h => .inl h, ?_⟩, ?_⟩
  · simp [T.erase, hs]
  · intro g hg'
    simp only [List.mem_cons, List.not_mem_nil, or_false] at hg'
    rcases hg' with rfl | rfl
    · exact ⟨hs2, (fun h => by cases h), (fun h => by cases h), es, c, (heap_alloc_lt hrs).trans hr, he⟩
    · exact ⟨hs2, (fun h => by cases h), (fun h => by cases h), es, c, hnew, he⟩
  · rw [hown2]; simp; omega
  · rw [hown2]
    intro b hb
    simp only [List.mem_cons, List.not_mem_nil, or_false] at hb
    rcases hb with rfl | rfl
    · exact hap _ (by simp)
    · exact fun h => by have := hilt _ h; omega
  · rw [hown2, hsz]
    intro b hb
    simp only [List.mem_cons, List.not_mem_nil, or_false] at hb
    omega
  · rw [hsz]; intro b hb; have := hilt b hb; omega
  · show w.heap.size ≤ _
    rw [hsz]; omega
  · exact fun b hb _ => heap_alloc_lt hb
  · rw [hown2]
    intro b hb hlt'
    show b ∈ own [T.map true (Value.map (some r)) s]
    rw [hown]
    simp only [List.mem_cons, List.not_mem_nil, or_false] at hb
    rcases hb with rfl | rfl
    · simp
    · exact absurd hlt' (Nat.lt_irrefl _)
  · intro k g0 hk
    cases k with
    | succ k => simp at hk
    | zero =>
      simp only [List.getElem?_cons_zero, Option.some.injEq] at hk
      subst hk
      exact ⟨_, rfl, rfl, fun _ _ => rfl, fun _ _ => rfl, fun _ _ h _ => h⟩
  · exact ⟨true, w.heap.size, 0, 0, rfl, rfl⟩
end Go.Vc

/- Functions that hand back boxes with borrowed values in them: a contract may say what lies there. -/
namespace Go.Vc
set_option linter.all false
open T (hdr blk)
def MeetsQ (P : Program) (f : FuncId) (Y : List D) (args : AV) (R : AV → List D → List (Nat × Path) → List (Nat × Path × AV) → Prop) : Prop :=
  HasBody P f ∧ ∀ (w : World) (I : Nat → Prop) (F0 : List G) (vs : List Value), F0.map T.erase = Y → (∀ g ∈ F0, T.Holds w.heap I g) → (own F0).Nodup → (∀ b ∈ own F0, ¬ I b) → (∀ b ∈ own F0, b < w.heap.size) →
    (∀ b, I b → b < w.heap.size) → Rl w.heap I F0 args true vs →
    Calls P f vs.toArray w fun e w' => ∃ v av X κ pl I' F', e = .returned v ∧ R av X κ pl ∧ Inv ⟨P, 0, w, I, F0⟩ X κ w' I' F' ∧ Rl w'.heap I' F' av true [v] ∧ PlOk pl w' I' F'
def embP (n n0 : Nat) (pls : List (Nat × Path)) (pl : List (Nat × Path × AV)) : List (Nat × Path × AV) := pl.map fun e => (n0 + (e.1 - n), e.2.1, e.2.2.emb pls n0)
def St.withP (st : St) (pl : List (Nat × Path × AV)) : St := { st with pl := pl ++ st.pl }
theorem embPl_ok {w : World} {I : Nat → Prop} {F F' : List G} {pls : List (Nat × Path)} (hn : (pls.map (·.1)).Nodup)
    (hok : ∀ e ∈ pls, e.1 < F.length ∧ (F.getD e.1 .nil).okp e.2 = true) {pl : List (Nat × Path × AV)} (hnew : ∀ e ∈ pl, pls.length ≤ e.1) (hp : PlOk pl w I F') :
    PlOk (embP pls.length F.length pls pl) w I (joined pls F' F) := fun k q av hm => by
  obtain ⟨⟨i, q', av'⟩, h1, h2⟩ := List.mem_map.1 hm
  cases h2
  obtain ⟨g, v, g1, g2, g3⟩ := hp _ _ _ h1
  have hi : pls[i]? = none := List.getElem?_eq_none (hnew _ h1)
  exact ⟨g, v, by rw [joined_new hi]; exact g1, g2, emb_res hn hok av' g3⟩
theorem MeetsQ.call {c : Cx} {f : FuncId} {Y : List D} {args : AV} {R : AV → List D → List (Nat × Path) → List (Nat × Path × AV) → Prop} (h : MeetsQ c.P f Y args R) {st : St} {avs : AV} {K : AV → St → Prop} (pls : List (Nat × Path))
    (hn : (pls.map (·.1)).Nodup) (hpl : placesOk st pls Y) (ha : args.emb pls st.X.length = avs) (hok : args.okArg pls.length = true)
    (hx : pls = [] ∨ avs.still = false) (hnew : ∀ av X κ pl, R av X κ pl → ∀ e ∈ pl, pls.length ≤ e.1)
    (hK : ∀ av X κ pl, R av X κ pl → K (av.emb pls st.X.length) ((st.after c.F0.length pls X κ).withP (embP pls.length st.X.length pls pl))) : CallW c f avs st K := by
  intro a w vs ⟨hd, hs, I, F, hi, he, hp, hxs⟩
  refine ⟨h.1, ?_⟩
  obtain ⟨p1, p2, p3⟩ := placesOk_spec hpl
  have hFl : F.length = st.X.length := by rw [← hi.erase]; simp
  have htree : ∀ k, st.tree k = (F.getD k .nil).erase := fun k => by
    rw [St.tree, ← hi.erase, List.getD_eq_getElem?_getD, List.getElem?_map, List.getD_eq_getElem?_getD]
    cases F[k]? <;> rfl
  have hokF : ∀ e ∈ pls, e.1 < F.length ∧ (F.getD e.1 .nil).okp e.2 = true ∧ T.noEntry (F.getD e.1 .nil) e.2 = true := fun e he => by
    obtain ⟨h1, h2, h3, _⟩ := p2 e he
    rw [htree, T.okp_erase] at h2
    rw [htree, T.noEntry_erase] at h3
    exact ⟨by omega, h2, h3⟩
  have hhead : ∀ e ∈ pls, (F.getD e.1 .nil).okp e.2 = true ∧ isHead ((F.getD e.1 .nil).at_ e.2) = true := fun e he => by
    obtain ⟨h1, h2, h3, h4⟩ := p2 e he
    rw [htree, ← T.erase_at, isHead_erase] at h4
    exact ⟨(hokF e he).2.1, h4⟩
  have hY : (nodes F pls).map T.erase = Y := by
    rw [← p3, nodes, List.map_map]
    exact List.map_congr_left fun e he => by simp only [Function.comp_apply, htree, T.erase_at]
  subst ha
  have hargs := emb_args hhead args hok hxs
  have hsub : ∀ b, (own (nodes F pls)).count b ≤ (own F).count b := fun b => by
    have h3 := back_count b pls (pls.map fun _ => T.nil) F hn (by simp) fun e he => ⟨(hokF e he).1, (hokF e he).2.1⟩
    have hz : (own (pls.map fun _ => (T.nil : G))).count b = 0 := by rw [own_nils]; rfl
    omega
  have hmem : ∀ b ∈ own (nodes F pls), b ∈ own F := fun b hb => by have := hsub b; rw [mem_of_count] at *; omega
  refine Calls.mono (h.2 w I (nodes F pls) vs hY (fun g hg => ?_) (nodup_of_count fun b => Nat.le_trans (hsub b) (count_le_one hi.nodup b)) (fun b hb => hi.apart b (hmem b hb)) (fun b hb => hi.lt b (hmem b hb)) hi.ilt hargs) ?_
  · simp only [nodes, List.mem_map] at hg
    obtain ⟨e, he, rfl⟩ := hg
    have h1 := (hokF e he).1
    refine T.Holds.at_ (hi.holds _ ?_) e.2
    rw [List.getD_eq_getElem?_getD, List.getElem?_eq_getElem h1]; exact List.getElem_mem h1
  · rintro e w' ⟨v, av, X, κ, pl, I', F', rfl, hR, hc, hv, hpn⟩
    have S := Stp.call hi hn hokF hc
    have hok2 : ∀ e ∈ pls, e.1 < F.length ∧ (F.getD e.1 .nil).okp e.2 = true := fun e he => ⟨(hokF e he).1, (hokF e he).2.1⟩
    have hres := emb_res (F' := F') hn hok2 av hv
    have hpl2 := embPl_ok hn hok2 (hnew av X κ pl hR) hpn
    have hold := hp.step hi S
    refine ⟨v, _, _, rfl, hK av X κ pl hR, ⟨hd.step hi S, hs, I', joined pls F' F, ?_, he.step hi S, ?_, by rw [← hFl]; exact hres⟩, fun hst b hb => ?_⟩
    rotate_left
    · rw [← hFl]
      intro k q av' hm
      rcases List.mem_append.1 hm with hm | hm
      · exact hpl2 k q av' hm
      · exact hold k q av' hm
    · rcases hx with hx | hx
      · subst hx; exact hc.frame b hb (by simp [nodes, own])
      · rw [hst] at hx; cases hx
    have h2 := hi.step S
    have herase : (joined pls F' F).map T.erase = (st.after c.F0.length pls X κ).X := by
      simp only [joined, St.after, List.map_append, back_erase, hi.erase, List.map_take, List.map_drop, hc.erase]
    rw [herase] at h2
    refine h2.rekill fun k q s hk hdd => ?_
    simp only [St.withP, St.after] at hdd
    rw [dead_append, Bool.or_eq_false_iff] at hdd ⊢
    refine ⟨?_, hdd.2⟩
    have h3 := hdd.1
    unfold dead at h3 ⊢
    rw [List.any_eq_false] at h3 ⊢
    rintro ⟨k0, q0⟩ hm hx
    refine h3 (k0, q0) (List.mem_filter.2 ⟨hm, ?_⟩) hx
    simp only [Bool.and_eq_true, beq_iff_eq] at hx
    rw [← hx.1]
    exact Nat.ble_eq_true_of_le hk
theorem MeetsQ.goQ {c : Cx} {f : FuncId} {Y : List D} {args : AV} {R : AV → List D → List (Nat × Path) → List (Nat × Path × AV) → Prop} (h : MeetsQ c.P f Y args R) {st : St} {avs : AV} {K : AV → St → Prop} (pls : List (Nat × Path))
    (hc : (pls.map (·.1)).Nodup ∧ placesOk st pls Y ∧ args.emb pls st.X.length = avs ∧ args.okArg pls.length = true ∧ (pls = [] ∨ avs.still = false)) (hnew : ∀ av X κ pl, R av X κ pl → ∀ e ∈ pl, pls.length ≤ e.1)
    (hK : ∀ av X κ pl, R av X κ pl → K (av.emb pls st.X.length) ((st.after c.F0.length pls X κ).withP (embP pls.length st.X.length pls pl))) : CallW c f avs st K :=
  h.call pls hc.1 hc.2.1 hc.2.2.1 hc.2.2.2.1 hc.2.2.2.2 hnew hK
end Go.Vc

/- Sorted keys of a map, sorted values: the kit's contracts, carried over. -/
namespace Go.Vc
set_option linter.all false
open Go.Proofs Go.Shelf Go.RowKit Go.Maps
open T (hdr blk)
theorem fresh_row {P : Program} {w w' : World} {I : Nat → Prop} {F0 : List G} (hH : ∀ g ∈ F0, T.Holds w.heap I g) (hnd : (own F0).Nodup) (hap : ∀ b ∈ own F0, ¬ I b) (hlt : ∀ b ∈ own F0, b < w.heap.size) (hilt : ∀ b, I b → b < w.heap.size)
    (hB : Below w.heap.size w w') {v : Value} {L : List ByteArray} {t : TypeId} (hrow : w'.ownsRow w.heap.size t 1 v L.length (L.map Value.string)) :
    Inv ⟨P, 0, w, I, F0⟩ (F0.map T.erase ++ [.sl true () 1 (strs L)]) [] w' I (F0 ++ [.sl true v 1 (strs0 L)]) ∧ Rl w'.heap I (F0 ++ [.sl true v 1 (strs0 L)]) (.sub F0.length [] 0 L.length false) true [v] := by
  have hnew : T.Holds w'.heap I (.sl true v 1 (strs0 L)) ∧ (∀ b ∈ own [T.sl true v 1 (strs0 L)], w.heap.size ≤ b ∧ b < w'.heap.size) ∧ (own [T.sl true v 1 (strs0 L)]).Nodup ∧ SubRel v 1 L.length 0 L.length false v := by
    have hlen := strs0_len L
    rcases hrow.2 with ⟨rfl, hn⟩ | ⟨g, cap, cur, rfl, hbase, hg, r1, r2, r3, r4⟩
    · refine ⟨⟨strs0_holds _ _ _, strs0_uni _, (fun h => by cases h), rfl, rfl, by rw [hlen, hn]⟩, ?_, ?_, none, 0, by rw [hn], by omega, by omega, by omega, (fun h => by cases h), rfl, rfl⟩
      · intro b hb; simp [own, T.owned, strs0_owned, T.blk] at hb
      · simp [own, T.owned, strs0_owned, T.blk]
    · have hgl : g < w'.heap.size := (Array.getElem?_eq_some_iff.1 hg).1
      cases cap with
      | zero =>
        have hL0 : L.length = 0 := by omega
        refine ⟨⟨strs0_holds _ _ _, strs0_uni _, (fun h => by cases h), by omega, (fun _ => rfl), by rw [hlen]; exact hL0⟩, ?_, ?_, some ⟨g, 0, none⟩, 0, rfl, by omega, by omega, by omega, (fun h => by cases h), ⟨g, 0, none⟩, rfl, rfl, rfl, by omega, by omega, by omega⟩
        · intro b hb; simp [own, T.owned, strs0_owned, T.blk] at hb
        · simp [own, T.owned, strs0_owned, T.blk]
      | succ c =>
        have hmx : maxLen = 2 ^ 63 - 1 := rfl
        refine ⟨⟨strs0_holds _ _ _, strs0_uni _, (fun h => by cases h), rfl, by rw [hlen], by omega, by omega, (fun h => by cases h), cur, t, (0, 0), hg, (fun _ => rfl), (by show 0 + (c + 1) * 1 ≤ cur.size; omega), ?_⟩, ?_, ?_, some ⟨g, 0, none⟩, c + 1, rfl, by omega, by omega, by omega, (fun h => by cases h), ⟨g, 0, none⟩, rfl, rfl, rfl, by omega, Nat.le_refl _, fun _ => rfl⟩
        · intro j v hj
          rw [strs0_cells] at hj
          have hjl : j < L.length := by
            rcases Nat.lt_or_ge j L.length with h | h
            · exact h
            · rw [List.getElem?_eq_none (by simpa using h)] at hj; cases hj
          have e : (cur.toList.take (L.length * 1))[j]? = cur.toList[j]? := List.getElem?_take_of_lt (by omega)
          rw [← r4, e, Array.getElem?_toList] at hj
          rw [show (0 : Nat) + j = j by omega]; exact hj
        · intro b hb
          simp [own, T.owned, strs0_owned, T.blk] at hb
          subst hb; exact ⟨hbase, hgl⟩
        · simp [own, T.owned, strs0_owned, T.blk]
  obtain ⟨n1, n2, n3, n4⟩ := hnew
  refine ⟨⟨?_, ?_, ?_, ?_, ?_, ?_, hB.os, hB.tape, hB.output, hB.size, fun b hb _ => hB.block b hb, ?_, fun _ h => h, fun b h => .inl h, ?_⟩, ?_⟩
  · simp [T.erase, strs0_erase]
  · intro g hg
    rcases List.mem_append.1 hg with hg | hg
    · exact (hH g hg).agree (fun b hb => hB.block b (hlt b (List.mem_flatMap.2 ⟨g, hg, hb⟩))) (fun b hb => hB.block b (hilt b hb)) fun _ h => h
    · rw [List.mem_singleton.1 hg]; exact n1
  · rw [own_append]
    refine List.nodup_append.2 ⟨hnd, n3, fun a ha b hb e => ?_⟩
    have h1 := hlt a ha
    have h2 := (n2 b hb).1
    omega
  · rw [own_append]
    intro b hb hI
    rcases List.mem_append.1 hb with hb | hb
    · exact hap b hb hI
    · have h1 := hilt b hI
      have h2 := (n2 b hb).1
      omega
  · rw [own_append]
    intro b hb
    rcases List.mem_append.1 hb with hb | hb
    · exact Nat.lt_of_lt_of_le (hlt b hb) hB.size
    · exact (n2 b hb).2
  · exact fun b hb => Nat.lt_of_lt_of_le (hilt b hb) hB.size
  · rw [own_append]
    intro b hb hlt'
    rcases List.mem_append.1 hb with hb | hb
    · exact hb
    · exact absurd (n2 b hb).1 (Nat.not_le.2 hlt')
  · intro k g0 hk
    have hkl := (List.getElem?_eq_some_iff.1 hk).1
    exact ⟨g0, by rw [List.getElem?_append_left hkl]; exact hk, rfl, fun _ _ => rfl, fun _ _ => rfl, fun _ _ h _ => h⟩
  · refine ⟨true, v, 1, L.length, v, ?_, rfl, n4⟩
    rw [hdrF, List.getElem?_append_right (Nat.le_refl _)]
    simp [T.at_, hdr, strs0_len]
def keysAre : D → List ByteArray → Prop
  | .nil, [] => True
  | .cons (.agg (.cons (.val v) (.cons _ .nil))) t, k :: ks => v = .string k ∧ keysAre t ks
  | _, _ => False
theorem entries_keys : ∀ {es : List MapEntry} {s : G} {ks : List ByteArray}, T.entriesAre es s → keysAre s.erase ks → es.map (·.key) = ks.map Value.string
  | es, s, ks, h, hk => by
    rcases entries_form h with ⟨rfl, rfl⟩ | ⟨e, es', v, t, rfl, rfl, h1, h2, h3⟩
    · cases ks with
      | nil => rfl
      | cons k ks => exact hk.elim
    · cases ks with
      | nil => exact hk.elim
      | cons k ks =>
        obtain ⟨k1, k2⟩ := hk
        rw [List.map_cons, List.map_cons, entries_keys (by assumption) k2]
        congr 1
theorem sortB_perm {l m : List (List UInt8)} (h : l.Perm m) : (l.mergeSort fun x y => decide (x ≤ y)) = m.mergeSort fun x y => decide (x ≤ y) := by
  have ht : ∀ a b c : List UInt8, decide (a ≤ b) = true → decide (b ≤ c) = true → decide (a ≤ c) = true := fun a b c h1 h2 => decide_eq_true (List.le_trans (of_decide_eq_true h1) (of_decide_eq_true h2))
  have hT : ∀ a b : List UInt8, (decide (a ≤ b) || decide (b ≤ a)) = true := fun a b => by
    rw [Bool.or_eq_true, decide_eq_true_eq, decide_eq_true_eq]; exact List.le_total a b
  have hp : (l.mergeSort fun x y => decide (x ≤ y)).Perm (m.mergeSort fun x y => decide (x ≤ y)) := (List.mergeSort_perm _ _).trans (h.trans (List.mergeSort_perm _ _).symm)
  exact hp.eq_of_pairwise (fun a b _ _ h1 h2 => List.le_antisymm (of_decide_eq_true h1) (of_decide_eq_true h2)) (List.pairwise_mergeSort ht hT l) (List.pairwise_mergeSort ht hT m)
theorem sortB_map (l : List ByteArray) : ((l.map ByteArray.toList).mergeSort fun x y => decide (x ≤ y)) = (l.mergeSort leB).map ByteArray.toList := by
  refine (List.map_mergeSort fun a _ b _ => ?_).symm
  show leB a b = _
  rw [leB, bytesLess_eq, ← decide_not]
  exact decide_eq_decide.2 List.not_lt
theorem one_root {F0 : List G} {X : List D} (h : F0.map T.erase = X) (hl : X.length = 1) : ∃ g0, F0 = [g0] := by
  have : F0.length = 1 := by rw [← hl, ← h]; simp
  rcases F0 with _ | ⟨g, _ | ⟨_, _⟩⟩
  · simp at this
  · exact ⟨g, rfl⟩
  · simp at this
theorem MeetsQ.mapsKeys {P : Program} {ρ : Ren} (L : SlLaysZ.n7 P ρ) (hb : HasBody P (ρ.f 7)) (m : D) :
    MeetsQ P (ρ.f 7) [.map true () m] (.cons (.mp 0 []) .nil) fun av X κ pl => av = .fn (ρ.f 10) (.cons (.ptr 1 [.d]) .nil) ∧ X = [.map true () m, .box true () (.junk ())] ∧ κ = [] ∧ pl = [(1, [.d], .mp 0 [])] := by
  refine ⟨hb, fun w I F0 vs hY hH hnd hap hlt hilt hvs => ?_⟩
  obtain ⟨g0, rfl⟩ := one_root hY rfl
  obtain ⟨a, s, rfl, hs⟩ : ∃ a s, g0 = .map true a s ∧ s.erase = m := by
    simp only [List.map_cons, List.map_nil, List.cons.injEq, and_true] at hY
    cases g0 <;> simp only [T.erase, reduceCtorEq, T.map.injEq] at hY
    obtain ⟨rfl, _, h⟩ := hY
    exact ⟨_, _, rfl, h⟩
  have hg := hH _ (List.mem_singleton.2 rfl)
  obtain ⟨v, vs', rfl, hv, hvn⟩ := hvs
  obtain rfl : vs' = [] := hvn
  obtain ⟨own', r, z', len', hh, hvv⟩ := hv
  simp only [hdrF, List.getElem?_cons_zero, Option.bind_some, T.at_, hdr, Option.some.injEq, Prod.mk.injEq] at hh
  obtain ⟨rfl, rfl, rfl, rfl⟩ := hh
  simp only [List.cons.injEq, and_true] at hvv
  subst hvv
  refine (callsIn_wide.1 (AnyZ.keys_in L Fence.wide 5 trivial rfl (some r) w)).mono ?_
  rintro e' w' ⟨rfl, rfl⟩
  obtain ⟨o, ho⟩ : ∃ o, o = Obj.cells #[.map (some r)] (ρ.t 23) := ⟨_, rfl⟩
  have hsz : (w.alloc o).heap.size = w.heap.size + 1 := World.size_alloc _ _
  have hnew : (w.alloc o).heap[w.heap.size]? = some o := World.alloc_heap_new w _
  have hold : ∀ b, b < w.heap.size → (w.alloc o).heap[b]? = w.heap[b]? := fun b hb => heap_alloc_lt hb
  rw [← ho]
  have hown2 : own [T.map true (Value.map (some r)) s, T.box true (.pointer (some ⟨w.heap.size, 0, none⟩)) (.junk (.map (some r)))] = own [T.map true (Value.map (some r)) s] ++ [w.heap.size] := by simp [own, T.owned, T.blk]
  refine ⟨.func (.func (ρ.f 10)) #[] #[.pointer (some ⟨w.heap.size, 0, none⟩)], _, _, _, _, I, [.map true (.map (some r)) s, .box true (.pointer (some ⟨w.heap.size, 0, none⟩)) (.junk (.map (some r)))], rfl, ⟨rfl, rfl, rfl, rfl⟩, ⟨?_, ?_, ?_, ?_, ?_, ?_, rfl, rfl, rfl, ?_, ?_, ?_, fun _ h => h, fun b h => .inl h, ?_⟩, ?_, ?_⟩
  · simp [T.erase, hs]
  · intro g hg'
    simp only [List.mem_cons, List.not_mem_nil, or_false] at hg'
    rcases hg' with rfl | rfl
    · exact hg.agree (fun b hb => hold b (hlt b (by simpa [own] using hb))) (fun b hb => hold b (hilt b hb)) fun _ h => h
    · refine ⟨rfl, (fun h => by cases h), rfl, (fun h => by cases h), fun _ => ⟨rfl, _, _, by rw [hnew, ho]⟩, _, _, _, by rw [hnew, ho], fun j v hj => ?_⟩
      cases j with
      | zero => simpa [T.cells] using hj
      | succ j => simp [T.cells] at hj
  · rw [hown2]
    refine List.nodup_append.2 ⟨hnd, by simp, fun a ha b hb e => ?_⟩
    rw [List.mem_singleton.1 hb] at e
    have := hlt a ha; omega
  · rw [hown2]
    intro b hb
    rcases List.mem_append.1 hb with hb | hb
    · exact hap b hb
    · rw [List.mem_singleton.1 hb]; exact fun h => by have := hilt _ h; omega
  · rw [hown2, hsz]
    intro b hb
    rcases List.mem_append.1 hb with hb | hb
    · have := hlt b hb; omega
    · rw [List.mem_singleton.1 hb]; omega
  · rw [hsz]; intro b hb; have := hilt b hb; omega
  · show w.heap.size ≤ _
    rw [hsz]; omega
  · exact fun b hb _ => hold b hb
  · rw [hown2]
    intro b hb hlt'
    rcases List.mem_append.1 hb with hb | hb
    · exact hb
    · rw [List.mem_singleton.1 hb] at hlt'; exact absurd hlt' (Nat.lt_irrefl _)
  · intro k g0 hk
    cases k with
    | succ k => simp at hk
    | zero =>
      simp only [List.getElem?_cons_zero, Option.some.injEq] at hk
      subst hk
      exact ⟨_, rfl, rfl, fun _ _ => rfl, fun _ _ => rfl, fun _ _ h _ => h⟩
  · exact ⟨[.pointer (some ⟨w.heap.size, 0, none⟩)], rfl, _, _, rfl, ⟨_, _, rfl, rfl⟩, rfl⟩
  · intro k q av hm
    simp only [List.mem_singleton, Prod.mk.injEq] at hm
    obtain ⟨rfl, rfl, rfl⟩ := hm
    exact ⟨_, _, rfl, rfl, true, r, 0, 0, rfl, rfl⟩
theorem MeetsP.sortedKeys {P : Program} {ρk ρs : Ren} (Lk : SlLaysZ.n10 P ρk) (Ls : SlLaysZ.n6 P ρs) (hb : HasBody P (ρs.f 6)) (hsort : ∀ m, AnyZ.SortsIn P ρs Fence.wide m)
    (e9 : ∀ args w, (callFunc (ρs.f 9) args).run P w = .ok (.enter (ρs.f 9) args) w) (eg : ∀ args w, (callFunc (ρk.f 10) args).run P w = .ok (.enter (ρk.f 10) args) w) (m : D) (ks : List ByteArray) (hks : keysAre m ks)
    (hsz : ∀ k ∈ ks, k.size ≤ maxLen) (hl : ks.length ≤ 1000000) :
    MeetsP P (ρs.f 6) [.map true () m, .box true () (.junk ())] [(1, [.d], .mp 0 [])] (.cons (.fn (ρk.f 10) (.cons (.ptr 1 [.d]) .nil)) .nil)
      fun av X κ => av = .sub 2 [] 0 ks.length false ∧ X = [.map true () m, .box true () (.junk ()), .sl true () 1 (strs (ks.mergeSort leB))] ∧ κ = [] := by
  refine ⟨hb, fun w I F0 vs hY hH hnd hap hlt hilt hpl hvs => ?_⟩
  obtain ⟨g0, g1, rfl⟩ : ∃ g0 g1, F0 = [g0, g1] := by
    have : F0.length = 2 := by have := congrArg List.length hY; simpa using this
    match F0, this with
    | [a, b], _ => exact ⟨a, b, rfl⟩
  obtain ⟨a, s, rfl, hs⟩ : ∃ a s, g0 = .map true a s ∧ s.erase = m := by
    simp only [List.map_cons, List.map_nil, List.cons.injEq, and_true] at hY
    have hY := hY.1
    cases g0 <;> simp only [T.erase, reduceCtorEq, T.map.injEq] at hY
    obtain ⟨rfl, _, h⟩ := hY
    exact ⟨_, _, rfl, h⟩
  have hg := hH _ (List.mem_cons_self ..)
  have hg1 := hH g1 (by simp)
  obtain ⟨g1', u, p1, p2, own', r, z', len', hh, hu⟩ := hpl 1 [.d] (.mp 0 []) (by simp)
  simp only [List.getElem?_cons_succ, List.getElem?_cons_zero, Option.some.injEq] at p1
  subst p1
  simp only [hdrF, List.getElem?_cons_zero, Option.bind_some, T.at_, hdr, Option.some.injEq, Prod.mk.injEq] at hh
  obtain ⟨rfl, rfl, rfl, rfl⟩ := hh
  simp only [List.cons.injEq, and_true] at hu
  subst hu
  obtain ⟨q1, q2, _, es, c, hr, he, hst⟩ := id hg
  obtain ⟨l, hl1, v1, vs1, rfl, hv1, hvn1⟩ : ∃ l, vs = [.func (.func (ρk.f 10)) #[] l.toArray] ∧ ∃ v1 vs1, l = v1 :: vs1 ∧ Rl w.heap I [T.map true (Value.map (some r)) s, g1] (.ptr 1 [.d]) true [v1] ∧ Rl w.heap I [T.map true (Value.map (some r)) s, g1] .nil true vs1 := by
    obtain ⟨v, vs', rfl, hv, hvn⟩ := hvs
    obtain rfl : vs' = [] := hvn
    obtain ⟨l, h1, v1, vs1, h2, h3, h4⟩ := hv
    exact ⟨l, h1, v1, vs1, h2, h3, h4⟩
  obtain rfl : vs1 = [] := hvn1
  obtain ⟨b1, o1, hl2, hv2⟩ := hv1
  simp only [List.cons.injEq, and_true] at hv2
  subst hv2
  subst hl1
  obtain ⟨a1, u1, rfl⟩ : ∃ a1 u1, g1 = .box true a1 (.junk u1) := by
    have hY1 : g1.erase = .box true () (.junk ()) := by
      have h9 := hY
      simp only [List.map_cons, List.map_nil, List.cons.injEq] at h9
      exact h9.2.1
    cases g1 <;> simp only [T.erase, reduceCtorEq, T.box.injEq] at hY1
    rename_i o a g
    obtain ⟨rfl, _, h⟩ := hY1
    cases g <;> simp only [T.erase, reduceCtorEq] at h
    exact ⟨_, _, rfl⟩
  have hu1 : u1 = .map (some r) := by simpa [T.at_] using p2
  subst hu1
  obtain ⟨_, _, h4⟩ := id hg1
  obtain ⟨x, rfl, hx1, _, hx2, row, e, fr, hrow, hcell⟩ : ∃ x, a1 = .pointer (some x) ∧ x.spot = none ∧ (true = false → I x.block) ∧ (x.off = 0) ∧ T.RowAt w.heap x.block x.off (T.junk (α := Value) (.map (some r))).cells := by
    split at h4
    · obtain ⟨k1, k2, k3, k4⟩ := h4
      exact ⟨_, rfl, k1, k2, (k3 rfl).1, k4⟩
    · exact h4.elim
  simp only [locF, List.getElem?_cons_succ, List.getElem?_cons_zero, Option.bind_some, T.loc, Option.some.injEq] at hl2
  have hbo : b1 = x.block ∧ o1 = 0 := by
    simp only [T.headAt, Option.some.injEq, Loc.abs.injEq] at hl2
    exact ⟨hl2.1.symm, by omega⟩
  obtain ⟨rfl, rfl⟩ := hbo
  have hxs : x.block < w.heap.size := (Array.getElem?_eq_some_iff.1 hrow).1
  have hm0 : w.cell? ⟨x.block, 0, none⟩ = some (.map (some r)) := by
    have h1 := hcell 0 (.map (some r)) rfl
    rw [hx2] at h1
    simpa [World.cell?, hrow] using h1
  have hkeys := entries_keys he (hs ▸ hks)
  have hel : es.size = ks.length := by
    have := congrArg List.length hkeys
    simpa using this
  obtain ⟨R, hR⟩ : ∃ R : Value → Option (DataW Unit × List MemPlace), R = fun _ => some (.nil, []) := ⟨_, rfl⟩
  have hrd : ∀ y ∈ es.toList, ∃ k ∈ ks, y.key = .string k ∧ Go.WideElems.rd P (ρk.t 26) R y = some (.string k.toList, .nil) := fun y hy => by
    have h1 : y.key ∈ ks.map Value.string := by rw [← hkeys]; exact List.mem_map.2 ⟨y, hy, rfl⟩
    obtain ⟨k, hk, e1⟩ := List.mem_map.1 h1
    refine ⟨k, hk, e1.symm, ?_⟩
    rw [Go.WideElems.rd, ← e1, Go.WideMaps.keyOf_string_mk Lk.t26 (hsz k hk), hR, Go.ByteArray.toList_eq]
    rfl
  have hFit : Go.WideElems.Fit P (ρk.t 26) R es c := ⟨by rw [hel]; have : maxLen = 2 ^ 63 - 1 := rfl; omega, hst, fun y hy => by obtain ⟨k, _, _, h⟩ := hrd y hy; exact ⟨_, h⟩⟩
  obtain ⟨D0, hD0⟩ : ∃ D0 : DataW Unit, D0 = .map ((es.toList.map (Go.WideElems.rg P (ρk.t 26) R)).foldr DataW.insert []) := ⟨_, rfl⟩
  have hown : w.ownsMap P (ρk.t 26) R r es.size D0 := ⟨es, c, hr, hFit, Nat.le_refl _, hD0⟩
  have hrg : (es.toList.map (Go.WideElems.rg P (ρk.t 26) R)).map (fun p => strOf p.1) = ks.map ByteArray.toList := by
    rw [List.map_map]
    have h1 : ∀ y ∈ es.toList, ((fun p => strOf p.1) ∘ Go.WideElems.rg P (ρk.t 26) R) y = (match y.key with | .string k => k.toList | _ => []) := fun y hy => by
      obtain ⟨k, _, h2, h3⟩ := hrd y hy
      simp only [Function.comp_apply, Go.WideElems.rg, h3, Option.getD_some, h2, strOf]
    rw [List.map_congr_left h1]
    have h2 : es.toList.map (fun y => match y.key with | .string k => k.toList | _ => []) = (es.toList.map (·.key)).map fun v => (match v with | .string k => k.toList | _ => []) := by rw [List.map_map]; rfl
    rw [h2, hkeys, List.map_map]; rfl
  have hsk : (strKeys D0).Perm (ks.map ByteArray.toList) := by
    rw [hD0, ← hrg]
    exact (Go.WideShapes.sorted_perm _).map _
  have hsize : Maps.size D0 = ks.length := by
    have := hsk.length_eq
    rw [hD0] at this ⊢
    simpa [strKeys, Maps.size] using this
  have hmx : maxLen = 2 ^ 63 - 1 := rfl
  have hseq : SeqGives Fence.wide (5 - 1 - 1 - 1) P (ρk.f 10) #[.pointer (some ⟨x.block, 0, none⟩)] encStr (fun ss => ss.Perm (strKeys D0)) (Maps.size D0) w :=
    AnyZ.keys_gives Lk Fence.wide _ trivial rfl (by omega) x.block r es.size D0 w hxs hm0 hown
  refine (callsIn_wide.1 (AnyZ.sorted_in Ls Fence.wide 5 trivial trivial trivial trivial rfl (by omega) (hsort _) e9 (ρk.f 10) #[.pointer (some ⟨x.block, 0, none⟩)] trivial eg _ _ (by omega) (by omega) w hseq)).mono ?_
  rintro e' w' ⟨v, ss, rfl, hperm, hrow', _, hB⟩
  obtain ⟨L, hL⟩ : ∃ L, L = ks.mergeSort leB := ⟨_, rfl⟩
  have hLl : L.length = ks.length := by rw [hL, List.length_mergeSort]
  have hssl : ss.length = L.length := by rw [hLl, (hperm.trans hsk).length_eq, List.length_map]
  have hmap : (ss.mergeSort fun x y => decide (x ≤ y)).map encStr = L.map Value.string := by
    rw [sortB_perm (hperm.trans hsk), sortB_map, ← hL, List.map_map]
    exact List.map_congr_left fun k _ => enc_str k
  rw [hmap, hssl] at hrow'
  obtain ⟨hi, hv⟩ := fresh_row (P := P) hH hnd hap hlt hilt hB hrow'
  rw [hY] at hi
  exact ⟨v, _, _, _, I, _, rfl, ⟨rfl, by rw [← hL]; rfl, rfl⟩, hi, by rw [← hLl]; exact hv⟩
end Go.Vc

/- slices.Insert at texts: the kit's contracts, carried over. -/
namespace Go.Vc
set_option linter.all false
open Go.Proofs Go.Shelf Go.RowKit Go.Lib
open T (hdr blk)
def putAt (row : Array Value) : Nat → List Value → Array Value
  | _, [] => row
  | o, v :: r => putAt (row.setIfInBounds o v) (o + 1) r
theorem putAt_size : ∀ (vs : List Value) (row : Array Value) (o : Nat), (putAt row o vs).size = row.size
  | [], _, _ => rfl
  | v :: r, row, o => by rw [putAt, putAt_size r]; simp
theorem putAt_at : ∀ (vs : List Value) (row : Array Value) (o j : Nat), o + vs.length ≤ row.size → (putAt row o vs)[j]? = if o ≤ j ∧ j < o + vs.length then vs[j - o]? else row[j]?
  | [], row, o, j, _ => by rw [putAt, if_neg (by simp <;> omega)]
  | v :: r, row, o, j, h => by
    rw [List.length_cons] at h
    rw [putAt, putAt_at r _ (o + 1) j (by simp; omega)]
    by_cases h1 : o + 1 ≤ j ∧ j < o + 1 + r.length
    · rw [if_pos h1, if_pos (by simp; omega), show j - o = (j - (o + 1)) + 1 by omega, List.getElem?_cons_succ]
    · rw [if_neg h1]
      by_cases h2 : j = o
      · subst h2
        rw [if_pos (by simp), Nat.sub_self, List.getElem?_cons_zero, Array.getElem?_setIfInBounds_self_of_lt (by omega)]
      · rw [if_neg (by simp; omega), Array.getElem?_setIfInBounds_ne (by omega)]
theorem setCells_row {b : Nat} {e : TypeId} {fr : Nat × Nat} : ∀ (vs : List Value) (o : Nat) {w : World} {row : Array Value}, w.heap[b]? = some (.cells row e fr) → (w.setCells b o vs).heap[b]? = some (.cells (putAt row o vs) e fr)
  | [], _, _, _, h => h
  | v :: r, o, w, row, h => by
    rw [World.setCells, putAt]
    refine setCells_row r (o + 1) ?_
    simp [World.setCell, Array.getElem?_modify, h]
theorem setCells_same {b : Nat} : ∀ (vs : List Value) (o : Nat) (w : World), (w.setCells b o vs).heap.size = w.heap.size ∧ (w.setCells b o vs).os = w.os ∧ (w.setCells b o vs).tape = w.tape ∧ (w.setCells b o vs).output = w.output ∧ ∀ k, k ≠ b → (w.setCells b o vs).heap[k]? = w.heap[k]?
  | [], _, _ => ⟨rfl, rfl, rfl, rfl, fun _ _ => rfl⟩
  | v :: r, o, w => by
    obtain ⟨h1, h2, h3, h4, h5⟩ := setCells_same r (o + 1) (w.setCell ⟨b, o, none⟩ v) (b := b)
    rw [World.setCells]
    refine ⟨by rw [h1]; simp [World.setCell], h2, h3, h4, fun k hk => by rw [h5 k hk]; exact Below.heap_setCell _ _ _ _ hk⟩
theorem consumed_row {P : Program} {w w' : World} {I : Nat → Prop} {a0 v' : Value} {s0 : G} {g1 : G} {L' : List ByteArray} (hH : ∀ g ∈ [T.sl true a0 1 s0, g1], T.Holds w.heap I g) (hnd : (own [T.sl true a0 1 s0, g1]).Nodup)
    (hap : ∀ b ∈ own [T.sl true a0 1 s0, g1], ¬ I b) (hlt : ∀ b ∈ own [T.sl true a0 1 s0, g1], b < w.heap.size) (hilt : ∀ b, I b → b < w.heap.size) (h1a : a0.oneCell' = true) (hos : w'.os = w.os) (htp : w'.tape = w.tape) (hout : w'.output = w.output)
    (hsz : w.heap.size ≤ w'.heap.size) (hfr : ∀ b, b < w.heap.size → b ∉ own [T.sl true a0 1 s0] → w'.heap[b]? = w.heap[b]?) (hN : T.Holds w'.heap I (.sl true v' 1 (strs0 L')))
    (hNo : ∀ b ∈ own [T.sl true v' 1 (strs0 L')], (b ∈ own [T.sl true a0 1 s0] ∨ w.heap.size ≤ b) ∧ b < w'.heap.size) (hNn : (own [T.sl true v' 1 (strs0 L')]).Nodup) (hsub : SubRel v' 1 L'.length 0 L'.length false v') :
    Inv ⟨P, 0, w, I, [.sl true a0 1 s0, g1]⟩ [.junk (), g1.erase, .sl true () 1 (strs L')] [(0, [])] w' I [.junk a0, g1, .sl true v' 1 (strs0 L')] ∧ Rl w'.heap I [.junk a0, g1, .sl true v' 1 (strs0 L')] (.sub 2 [] 0 L'.length false) true [v'] := by
  have e1 : own [T.sl true a0 1 s0, g1] = own [T.sl true a0 1 s0] ++ own [g1] := by simp [own]
  have e2 : own [T.junk a0, g1, T.sl true v' 1 (strs0 L')] = own [g1] ++ own [T.sl true v' 1 (strs0 L')] := by simp [own, T.owned]
  rw [e1] at hnd hap hlt
  have hn2 := List.nodup_append.1 hnd
  have hg1 : ∀ b ∈ own [g1], w'.heap[b]? = w.heap[b]? := fun b hb => hfr b (hlt b (by simp [hb])) fun h => hn2.2.2 b h b hb rfl
  refine ⟨⟨?_, ?_, ?_, ?_, ?_, ?_, hos, htp, hout, hsz, ?_, ?_, fun _ h => h, fun b h => .inl h, ?_⟩, ?_⟩
  · simp [T.erase, strs0_erase]
  · intro g hg
    simp only [List.mem_cons, List.not_mem_nil, or_false] at hg
    rcases hg with rfl | rfl | rfl
    · exact h1a
    · exact (hH g (by simp)).agree (fun b hb => hg1 b (by simpa [own] using hb)) (fun b hb => hfr b (hilt b hb) fun h => hap b (by simp [h]) hb) fun _ h => h
    · exact hN
  · rw [e2]
    refine List.nodup_append.2 ⟨hn2.2.1, hNn, fun a ha b hb e => ?_⟩
    subst e
    rcases (hNo a hb).1 with h | h
    · exact hn2.2.2 a h a ha rfl
    · have := hlt a (by simp [ha]); omega
  · rw [e2]
    intro b hb hI
    rcases List.mem_append.1 hb with hb | hb
    · exact hap b (by simp [hb]) hI
    · rcases (hNo b hb).1 with h | h
      · exact hap b (by simp [h]) hI
      · have := hilt b hI; omega
  · rw [e2]
    intro b hb
    rcases List.mem_append.1 hb with hb | hb
    · exact Nat.lt_of_lt_of_le (hlt b (by simp [hb])) hsz
    · exact (hNo b hb).2
  · exact fun b hb => Nat.lt_of_lt_of_le (hilt b hb) hsz
  · intro b hb hbn
    refine hfr b hb fun h => hbn ?_
    show b ∈ own [T.sl true a0 1 s0, g1]
    rw [e1]; simp [h]
  · rw [e2]
    intro b hb hlt'
    show b ∈ own [T.sl true a0 1 s0, g1]
    rw [e1]
    rcases List.mem_append.1 hb with hb | hb
    · simp [hb]
    · rcases (hNo b hb).1 with h | h
      · simp [h]
      · exact absurd h (Nat.not_le.2 hlt')
  · intro k g0 hk
    match k, hk with
    | 0, hk =>
      simp only [List.getElem?_cons_zero, Option.some.injEq] at hk
      subst hk
      refine ⟨_, rfl, rfl, fun q hq => ?_, fun q hq => ?_, fun q v hq hd => ?_⟩
      · cases q with
        | nil => rfl
        | cons st q => simp [dead, mpre] at hq
      · simp [dead, mpre] at hq
      · simp [dead, mpre] at hd
    | 1, hk => exact ⟨g0, hk, rfl, fun _ _ => rfl, fun _ _ => rfl, fun _ _ h _ => h⟩
  · refine ⟨true, v', 1, L'.length, v', ?_, rfl, hsub⟩
    simp [hdrF, T.at_, hdr, strs0_len]
theorem holds_strs {h : Array Obj} {I : Nat → Prop} {b off c : Nat} {row : Array Value} {e : TypeId} {L : List ByteArray} (hrow : h[b]? = some (.cells row e (0, 0))) (hn : L.length ≤ c) (h0 : 0 < c) (hc : c ≤ 2 ^ 63 - 1) (hs : off + c ≤ row.size)
    (hat : ∀ j, (hj : j < L.length) → row[off + j]? = some (Value.string L[j])) :
    T.Holds h I (.sl true (.slice (some ⟨b, off, none⟩) L.length c) 1 (strs0 L)) ∧ own [T.sl true (.slice (some ⟨b, off, none⟩) L.length c) 1 (strs0 L)] = [b] ∧ SubRel (.slice (some ⟨b, off, none⟩) L.length c) 1 L.length 0 L.length false (.slice (some ⟨b, off, none⟩) L.length c) := by
  obtain ⟨c, rfl⟩ : ∃ c', c = c' + 1 := ⟨c - 1, by omega⟩
  refine ⟨⟨strs0_holds _ _ _, strs0_uni _, (fun h => by cases h), rfl, by rw [strs0_len], hn, hc, (fun h => by cases h), row, e, (0, 0), hrow, (fun _ => rfl), (by show off + (c + 1) * 1 ≤ row.size; omega), ?_⟩, by simp [own, T.owned, strs0_owned, T.blk],
    some ⟨b, off, none⟩, c + 1, rfl, by omega, hn, hc, (fun h => by cases h), ⟨b, off, none⟩, rfl, rfl, rfl, by omega, Nat.le_refl _, fun _ => rfl⟩
  intro j v hj
  rw [strs0_cells] at hj
  have hjl : j < L.length := by
    rcases Nat.lt_or_ge j L.length with h | h
    · exact h
    · rw [List.getElem?_eq_none (by simpa using h)] at hj; cases hj
  rw [List.getElem?_map, List.getElem?_eq_getElem hjl, Option.map_some, Option.some.injEq] at hj
  rw [← hj]; exact hat j hjl
theorem ins_at {l : List ByteArray} {k : ByteArray} {i j : Nat} (hi : i ≤ l.length) (hj : j < (l.take i ++ k :: l.drop i).length) : (l.take i ++ k :: l.drop i)[j] = if h : j < i then l[j]'(by omega) else if h2 : j = i then k else l[j - 1]'(by simp at hj; omega) := by
  split
  · rename_i h
    rw [List.getElem_append_left (by rw [List.length_take]; omega), List.getElem_take]
  · rename_i h
    rw [List.getElem_append_right (by rw [List.length_take]; omega)]
    split
    · rename_i h2
      subst h2
      simp [List.length_take, Nat.min_eq_left hi]
    · rename_i h2
      obtain ⟨m, hm⟩ : ∃ m, j - (l.take i).length = m + 1 := ⟨j - i - 1, by rw [List.length_take]; omega⟩
      simp only [hm, List.getElem_cons_succ, List.getElem_drop]
      congr 1
      rw [List.length_take] at hm; omega
theorem ins_len {l : List ByteArray} {k : ByteArray} {i : Nat} : (l.take i ++ k :: l.drop i).length = l.length + 1 := by
  simp only [List.length_append, List.length_take, List.length_cons, List.length_drop]; omega
theorem Meets.insertStr {P : Program} {ρ : Ren} (Ly : Lays2.n22 P ρ) (hb : HasBody P (ρ.f 22)) (l : List ByteArray) (k : ByteArray) (i : Nat) (hi : i ≤ l.length) (hl : l.length ≤ 1000000) :
    Meets P (ρ.f 22) [.sl true () 1 (strs l), .sl true () 1 (strs [k])] (.cons (.sub 0 [] 0 l.length false) (.cons (.val (.int .i64 i)) (.cons (.sub 1 [] 0 1 true) .nil)))
      fun av X κ => av = .sub 2 [] 0 (l.length + 1) false ∧ X = [.junk (), .sl true () 1 (strs [k]), .sl true () 1 (strs (l.take i ++ k :: l.drop i))] ∧ κ = [(0, [])] := by
  refine ⟨hb, fun w I F0 vs hY hH hnd hap hlt hilt hvs => ?_⟩
  obtain ⟨g0, g1, rfl⟩ : ∃ g0 g1, F0 = [g0, g1] := by
    have : F0.length = 2 := by have := congrArg List.length hY; simpa using this
    match F0, this with
    | [a, b], _ => exact ⟨a, b, rfl⟩
  have hY0 : g0.erase = .sl true () 1 (strs l) ∧ g1.erase = .sl true () 1 (strs [k]) := by
    simp only [List.map_cons, List.map_nil, List.cons.injEq, and_true] at hY; exact hY
  have sl_of : ∀ {g : G} {m : List ByteArray}, g.erase = .sl true () 1 (strs m) → ∃ a, g = .sl true a 1 (strs0 m) := by
    intro g m h
    cases g <;> simp only [T.erase, reduceCtorEq, T.sl.injEq] at h
    obtain ⟨rfl, _, rfl, h⟩ := h
    exact ⟨_, by rw [strs0_of h]⟩
  obtain ⟨a0, rfl⟩ := sl_of hY0.1
  obtain ⟨a1, rfl⟩ := sl_of hY0.2
  obtain ⟨w0, vs1, rfl, hv0, w1, vs2, rfl, hv1, w2, vs3, rfl, hv2, hv3⟩ := hvs
  obtain rfl : vs3 = [] := hv3
  have hw1 : w1 = .int .i64 i := by obtain ⟨h, _⟩ := hv1; simpa using h
  subst hw1
  obtain ⟨own0, b0, z0, n0, u0, hh0, hu0, A, cc, rfl, k1, k2, k3, _, k5⟩ := hv0
  simp only [hdrF, List.getElem?_cons_zero, Option.bind_some, T.at_, hdr, Option.some.injEq, Prod.mk.injEq] at hh0
  obtain ⟨rfl, rfl, rfl, rfl⟩ := hh0
  simp only [List.cons.injEq, and_true] at hu0
  subst hu0
  obtain ⟨own1, b1, z1, n1, u1, hh1, hu1, A1, c1, rfl, m1, m2, m3, m4, m5⟩ := hv2
  simp only [hdrF, List.getElem?_cons_succ, List.getElem?_cons_zero, Option.bind_some, T.at_, hdr, Option.some.injEq, Prod.mk.injEq] at hh1
  obtain ⟨rfl, rfl, rfl, rfl⟩ := hh1
  simp only [List.cons.injEq, and_true] at hu1
  subst hu1
  have hc1 : c1 = 1 := m4 rfl
  subst hc1
  have hg0 := hH (.sl true a0 1 (strs0 l)) (by simp)
  have hg1 := hH (.sl true a1 1 (strs0 [k])) (by simp)
  obtain ⟨_, _, _, q4⟩ := id hg0
  obtain ⟨_, _, _, r4⟩ := id hg1
  have hl1 : (strs0 [k]).len = 1 := strs0_len [k]
  have hl0 : (strs0 l).len = l.length := strs0_len l
  have h1a : a0.oneCell' = true := by
    split at q4 <;> first | rfl | exact q4.elim
  obtain ⟨x1, cap1, rfl, row1, e1, hr1, hcell1, rfl⟩ : ∃ (x1 : Addr) (cap1 : Nat), a1 = .slice (some x1) 1 (cap1 + 1) ∧ ∃ row1 e1, w.heap[x1.block]? = some (.cells row1 e1 (0, 0)) ∧ row1[x1.off]? = some (.string k) ∧ A1 = some ⟨x1.block, x1.off, none⟩ := by
    split at r4
    · omega
    · omega
    · rename_i x n c
      obtain ⟨p1, p2, p3, p4, p5, row, e, fr, p6, p7, p8, p9⟩ := r4
      obtain rfl := p7 rfl
      obtain ⟨y, rfl, y1, y2, y3, y4, y5⟩ := m5
      obtain ⟨yb, yo, ys⟩ := y
      simp only at y1 y2 y5
      have hy := y5 (by omega)
      rw [hl1] at p2
      subst p2
      refine ⟨x, c, rfl, row, e, p6, p9 0 _ rfl, ?_⟩
      subst y1; subst y2
      rw [show yo = x.off by omega]
    · exact r4.elim
  have hvs1 : ∀ j v, [Value.string k][j]? = some v → w.cell? ⟨x1.block, x1.off + j, none⟩ = some v := fun j v hj => by
    cases j with
    | zero => simp only [List.getElem?_cons_zero, Option.some.injEq] at hj; subst hj; simpa [World.cell?, hr1] using hcell1
    | succ j => simp at hj
  have h1v : ∀ v ∈ [Value.string k], v.oneCell' = true := fun v hv => by rw [List.mem_singleton.1 hv]; rfl
  have hcl : (l.map Value.string).length = l.length := by simp
  have h1c : ∀ v ∈ l.map Value.string, v.oneCell' = true := fun v hv => by obtain ⟨s, _, rfl⟩ := List.mem_map.1 hv; rfl
  obtain ⟨L', hL'⟩ : ∃ L', L' = l.take i ++ k :: l.drop i := ⟨_, rfl⟩
  have hLl : L'.length = l.length + 1 := by rw [hL', ins_len]
  have hLs : L'.map Value.string = (l.map Value.string).take i ++ Value.string k :: (l.map Value.string).drop i := by rw [hL']; simp [List.map_take, List.map_drop]
  have hxs1 : x1.block < w.heap.size := (Array.getElem?_eq_some_iff.1 hr1).1
  have hown1 : own [T.sl true (.slice (some x1) 1 (cap1 + 1)) 1 (strs0 [k])] = [x1.block] := by simp [own, T.owned, strs0_owned, T.blk]
  have hmx : maxLen = 2 ^ 63 - 1 := rfl
  have fin1 : ∀ (w' : World) (cap : Nat) (row : Array Value) (e : TypeId), w'.heap[w.heap.size]? = some (.cells row e (0, 0)) → w'.os = w.os → w'.tape = w.tape → w'.output = w.output → w.heap.size < w'.heap.size → (∀ b, b < w.heap.size → w'.heap[b]? = w.heap[b]?) →
      l.length + 1 ≤ cap → cap ≤ maxLen → cap ≤ row.size → (∀ j, (hj : j < L'.length) → row[0 + j]? = some (Value.string L'[j])) → 
      ∃ v av X κ I' F', Ending.returned (.slice (some ⟨w.heap.size, 0, none⟩) (l.length + 1) cap) = .returned v ∧ (av = AV.sub 2 [] 0 (l.length + 1) false ∧ X = [.junk (), .sl true () 1 (strs [k]), .sl true () 1 (strs L')] ∧ κ = [(0, [])]) ∧
        Inv ⟨P, 0, w, I, [.sl true a0 1 (strs0 l), .sl true (.slice (some x1) 1 (cap1 + 1)) 1 (strs0 [k])]⟩ X κ w' I' F' ∧ Rl w'.heap I' F' av true [v] := by
    intro w' cap row e g1 g2 g3 g4 g5 g6 g7 g8 g9 g10
    obtain ⟨h1, h2, h3⟩ := holds_strs (I := I) (b := w.heap.size) (off := 0) (c := cap) (L := L') g1 (by omega) (by omega) (by omega) (by omega) g10
    obtain ⟨hi', hv'⟩ := consumed_row (P := P) hH hnd hap hlt hilt h1a g2 g3 g4 (by omega) (fun b hb _ => g6 b hb) h1 (fun b hb => by rw [h2, List.mem_singleton] at hb; subst hb; exact ⟨.inr (Nat.le_refl _), g5⟩) (by rw [h2]; simp) h3
    rw [hY0.2] at hi'
    rw [hLl] at hv'
    refine ⟨_, _, _, _, I, _, rfl, ⟨rfl, rfl, rfl⟩, hi', by rw [hLl] at hi' ⊢ ; exact hv'⟩
  have fin2 : ∀ (w' : World) (x : Addr) (n0 c0 cap : Nat) (row : Array Value) (e : TypeId), a0 = .slice (some x) n0 (c0 + 1) → w'.heap[x.block]? = some (.cells row e (0, 0)) → w'.os = w.os → w'.tape = w.tape → w'.output = w.output → w.heap.size = w'.heap.size → x.block < w.heap.size → (∀ b, b ≠ x.block → w'.heap[b]? = w.heap[b]?) →
      l.length + 1 ≤ cap → cap ≤ maxLen → x.off + cap ≤ row.size → (∀ j, (hj : j < L'.length) → row[x.off + j]? = some (Value.string L'[j])) → 
      ∃ v av X κ I' F', Ending.returned (.slice (some ⟨x.block, x.off, none⟩) (l.length + 1) cap) = .returned v ∧ (av = AV.sub 2 [] 0 (l.length + 1) false ∧ X = [.junk (), .sl true () 1 (strs [k]), .sl true () 1 (strs L')] ∧ κ = [(0, [])]) ∧
        Inv ⟨P, 0, w, I, [.sl true a0 1 (strs0 l), .sl true (.slice (some x1) 1 (cap1 + 1)) 1 (strs0 [k])]⟩ X κ w' I' F' ∧ Rl w'.heap I' F' av true [v] := by
    intro w' x n0 c0 cap row e ha0 g1 g2 g3 g4 g5 g5' g6 g7 g8 g9 g10
    have hold : own [T.sl true a0 1 (strs0 l)] = [x.block] := by rw [ha0]; simp [own, T.owned, strs0_owned, T.blk]
    obtain ⟨h1, h2, h3⟩ := holds_strs (I := I) (b := x.block) (off := x.off) (c := cap) (L := L') g1 (by omega) (by omega) (by omega) (by omega) g10
    obtain ⟨hi', hv'⟩ := consumed_row (P := P) hH hnd hap hlt hilt h1a g2 g3 g4 (by omega) (fun b hb hn => g6 b fun e => hn (by rw [hold, e]; simp)) h1 (fun b hb => by rw [h2, List.mem_singleton] at hb; subst hb; exact ⟨.inl (by rw [hold]; simp), by rw [← g5]; exact g5'⟩) (by rw [h2]; simp) h3
    rw [hY0.2] at hi'
    rw [hLl] at hv'
    refine ⟨_, _, _, _, I, _, rfl, ⟨rfl, rfl, rfl⟩, hi', by rw [hLl] at hi' ⊢ ; exact hv'⟩
  rw [← hL']
  by_cases hroom : l.length + 1 ≤ cc
  · -- there is room
    obtain ⟨x, c0, rfl, row, e, hrow, hsz, hcell, rfl, hcc⟩ : ∃ (x : Addr) (c0 : Nat), a0 = .slice (some x) l.length (c0 + 1) ∧ ∃ row e, w.heap[x.block]? = some (.cells row e (0, 0)) ∧ x.off + (c0 + 1) ≤ row.size ∧ (∀ j, (hj : j < l.length) → row[x.off + j]? = some (.string l[j])) ∧ A = some ⟨x.block, x.off, none⟩ ∧ cc ≤ c0 + 1 := by
      split at q4
      · obtain ⟨_, h⟩ := k5; omega
      · obtain ⟨y, _, _, _, h, _⟩ := k5; omega
      · rename_i x n c
        obtain ⟨p1, p2, p3, p4, p5, row, e, fr, p6, p7, p8, p9⟩ := q4
        obtain rfl := p7 rfl
        obtain ⟨y, rfl, y1, y2, y3, y4, y5⟩ := k5
        obtain ⟨yb, yo, ys⟩ := y
        simp only at y1 y2 y5
        have hy := y5 (by omega)
        rw [hl0] at p2
        subst p2
        refine ⟨x, c, rfl, row, e, p6, by omega, fun j hj => p9 j _ (by rw [strs0_cells]; simp [hj]), ?_, by omega⟩
        subst y1; subst y2
        rw [show yo = x.off by omega]
      · exact q4.elim
    have hxs : x.block < w.heap.size := (Array.getElem?_eq_some_iff.1 hrow).1
    have hne : x1.block ≠ x.block := fun e' => by
      have h2 : own [T.sl true (.slice (some x) l.length (c0 + 1)) 1 (strs0 l), T.sl true (.slice (some x1) 1 (cap1 + 1)) 1 (strs0 [k])] = [x.block, x1.block] := by simp [own, T.owned, strs0_owned, T.blk]
      rw [h2, e'] at hnd; simp at hnd
    have hsome : ∀ j, j < c0 + 1 → (w.cell? ⟨x.block, x.off + j, none⟩).isSome = true := fun j hj => by
      simp [World.cell?, hrow]; omega
    have hfz : ∀ o, w.frozen? ⟨x.block, o, none⟩ = false := fun o => by simp [World.frozen?, hrow]
    have hcs : ∀ j v, (l.map Value.string)[j]? = some v → w.cell? ⟨x.block, x.off + j, none⟩ = some v := fun j v hj => by
      have hjl : j < l.length := by
        rcases Nat.lt_or_ge j l.length with h | h
        · exact h
        · rw [List.getElem?_eq_none (by simpa using h)] at hj; cases hj
      rw [List.getElem?_map, List.getElem?_eq_getElem hjl, Option.map_some, Option.some.injEq] at hj
      subst hj
      simp [World.cell?, hrow, hcell j hjl]
    by_cases hend : i = l.length
    · subst hend
      have hw' := Any2.slices_Insert_string_end_room Ly x.block x.off l.length cc x1.block x1.off 1 1 [Value.string k] w (by omega) hroom (by omega) rfl (fun j hj => by have := hsome (l.length + j) (by omega); rwa [Nat.add_assoc]) (fun j _ => hfz _) hvs1 h1v
      refine hw'.mono ?_
      rintro e' w' ⟨rfl, rfl⟩
      obtain ⟨s1, s2, s3, s4, s5⟩ := setCells_same (b := x.block) [Value.string k] (x.off + l.length) w
      refine fin2 _ x _ _ cc _ e rfl (setCells_row _ _ hrow) s2 s3 s4 s1.symm hxs s5 hroom (by omega) (by rw [putAt_size]; omega) fun j hj => ?_
      rw [putAt_at _ _ _ _ (by simp; omega)]
      have hje : L'[j] = if h : j < l.length then l[j] else k := by
        simp only [hL', ins_at (Nat.le_refl _)]
        split
        · rfl
        · rw [dif_pos (by omega)]
      rw [hje]
      by_cases hjl : j < l.length
      · rw [if_neg (by omega), dif_pos hjl]; exact hcell j hjl
      · rw [if_pos (by simp; omega), dif_neg hjl, show x.off + j - (x.off + l.length) = 0 by omega]; rfl
    · have hw' := Any2.slices_Insert_string_shift Ly x.block x.off l.length cc i x1.block x1.off 1 1 (l.map Value.string) [Value.string k] w (by omega) (by omega) hroom (by omega) hne hcl rfl hcs (fun j hj => hsome j (by omega)) (fun j _ => hfz _) hvs1 h1c h1v
        e1 e row1.size row.size (by simp [World.shape?, hr1]) (by simp [World.shape?, hrow]) (by omega) (by simp [World.frozen?, hr1]) (by simp [World.frozen?, hr1])
      refine hw'.mono ?_
      rintro e' w' ⟨rfl, rfl⟩
      obtain ⟨s1, s2, s3, s4, s5⟩ := setCells_same (b := x.block) ((l.map Value.string).drop i) (x.off + (i + 1)) w.drew
      obtain ⟨t1, t2, t3, t4, t5⟩ := setCells_same (b := x.block) [Value.string k] (x.off + i) (w.drew.setCells x.block (x.off + (i + 1)) ((l.map Value.string).drop i))
      refine fin2 _ x _ _ cc _ e rfl (setCells_row _ _ (setCells_row _ _ (w := w.drew) hrow)) (t2.trans s2) (t3.trans s3) (t4.trans s4) (t1.trans s1).symm hxs (fun b hb => (t5 b hb).trans (s5 b hb)) hroom (by omega) (by rw [putAt_size, putAt_size]; omega) fun j hj => ?_
      rw [putAt_at _ _ _ _ (by rw [putAt_size]; simp; omega), putAt_at _ _ _ _ (by simp; omega)]
      simp only [List.length_singleton, List.length_drop, List.length_map]
      have hje := ins_at (k := k) hi (j := j) (by rw [← hL']; exact hj)
      simp only [← hL'] at hje
      rw [hje]
      by_cases h1 : j < i
      · rw [if_neg (by omega), if_neg (by omega), dif_pos h1]; exact hcell j (by omega)
      · rw [dif_neg h1]
        by_cases h2 : j = i
        · rw [if_pos (by omega), dif_pos h2, show x.off + j - (x.off + i) = 0 by omega]; rfl
        · rw [if_neg (by omega), if_pos (by omega), dif_neg h2, List.getElem?_drop, List.getElem?_map, show i + (x.off + j - (x.off + (i + 1))) = j - 1 by omega, List.getElem?_eq_getElem (by omega)]; rfl
  · -- a new row
    have hcc : cc = l.length := by omega
    have hzc : ∀ n, (Builtin.zeroCells (Value.string ⟨#[]⟩).cells n).size = n := fun n => by simp [Builtin.zeroCells, Value.cells]
    have hxl : 0 < l.length → ∃ (x : Addr), A = some ⟨x.block, x.off, none⟩ ∧ ∀ j v, (l.map Value.string)[j]? = some v → w.cell? ⟨x.block, x.off + j, none⟩ = some v := by
      intro hpos
      split at q4
      · omega
      · omega
      · rename_i x n c
        obtain ⟨p1, p2, p3, p4, p5, row, e, fr, p6, p7, p8, p9⟩ := q4
        obtain ⟨y, rfl, y1, y2, y3, y4, y5⟩ := k5
        obtain ⟨yb, yo, ys⟩ := y
        simp only at y1 y2 y5
        have hy := y5 (by omega)
        refine ⟨x, ?_, fun j v hj => ?_⟩
        · subst y1; subst y2
          rw [show yo = x.off by omega]
        · have := p9 j v (by rw [strs0_cells]; exact hj)
          simpa [World.cell?, p6] using this
      · exact q4.elim
    have hA0 : A = none → l.length = 0 := fun h => by
      rcases Nat.eq_zero_or_pos l.length with h0 | h0
      · exact h0
      · obtain ⟨x, hx, _⟩ := hxl h0; rw [h] at hx; cases hx
    by_cases hend : i = l.length
    · subst hend
      have hw' := Any2.slices_Insert_string_end_grow Ly A l.length cc x1.block x1.off 1 1 (l.map Value.string) [Value.string k] w (by omega) k2 (by omega) (by omega) hcl rfl hA0 (fun a ha j v hj => by
        have hjl : j < l.length := by
          rcases Nat.lt_or_ge j l.length with h | h
          · exact h
          · rw [List.getElem?_eq_none (by simpa using h)] at hj; cases hj
        obtain ⟨x, hx, hc⟩ := hxl (by omega)
        rw [hx] at ha; cases ha
        rw [Addr.add_lit]
        exact hc j v hj) hvs1 h1v
      refine hw'.mono ?_
      rintro e' w' ⟨rfl, rfl⟩
      have hge := grownCap_ge w (l.length + 1) cc (ρ.t 9)
      have hle := grownCap_le_maxLen w (l.length + 1) cc (ρ.t 9) (by omega)
      generalize grownCap w (l.length + 1) cc (ρ.t 9) = cap at *
      refine fin1 _ cap _ (ρ.t 9) (World.alloc_heap_new w.drew _) rfl rfl rfl (by rw [World.size_alloc]; exact Nat.lt_succ_self _) (fun b hb => heap_alloc_lt (w := w.drew) hb) hge hle (by simp [hzc]; omega) fun j hj => ?_
      have e1 : ((l.map Value.string) ++ [Value.string k]) = L'.map Value.string := by rw [hLs, List.take_of_length_le (by simp), List.drop_of_length_le (by simp)]
      rw [e1, Array.getElem?_append_left (by simpa using hj), Nat.zero_add, List.getElem?_toArray, List.getElem?_map, List.getElem?_eq_getElem hj]; rfl
    · obtain ⟨x, rfl, hcs⟩ := hxl (by omega)
      have hw' := Any2.slices_Insert_string_grow Ly x.block x.off l.length cc i x1.block x1.off 1 1 (l.map Value.string) [Value.string k] w (by omega) (by omega) k2 (by omega) (by omega) hcl rfl hcs hvs1 h1c h1v
      refine hw'.mono ?_
      rintro e' w' ⟨rfl, rfl⟩
      have hge := grownCap_ge w (l.length + 1) cc (ρ.t 9)
      have hle := grownCap_le_maxLen w (l.length + 1) cc (ρ.t 9) (by omega)
      generalize grownCap w (l.length + 1) cc (ρ.t 9) = cap at *
      obtain ⟨row0, hrow0⟩ : ∃ row0, row0 = ((l.map Value.string).take i).toArray ++ Builtin.zeroCells (Value.string ⟨#[]⟩).cells (l.length + 1 - i) ++ Builtin.zeroCells (Value.string ⟨#[]⟩).cells (cap - (l.length + 1)) := ⟨_, rfl⟩
      have hs0 : row0.size = cap := by rw [hrow0]; simp [hzc]; omega
      rw [← hrow0]
      obtain ⟨s1, s2, s3, s4, s5⟩ := setCells_same (b := w.heap.size) [Value.string k] i (w.alloc (.cells row0 (ρ.t 9))).drew
      obtain ⟨t1, t2, t3, t4, t5⟩ := setCells_same (b := w.heap.size) ((l.map Value.string).drop i) (i + 1) (((w.alloc (.cells row0 (ρ.t 9))).drew.setCells w.heap.size i [Value.string k]).drew)
      have hal : (w.alloc (.cells row0 (ρ.t 9))).drew.heap[w.heap.size]? = some (.cells row0 (ρ.t 9)) := World.alloc_heap_new w _
      refine fin1 _ cap _ (ρ.t 9) (setCells_row _ _ (w := ((w.alloc (.cells row0 (ρ.t 9))).drew.setCells w.heap.size i [Value.string k]).drew) (setCells_row _ _ hal)) (t2.trans s2) (t3.trans s3) (t4.trans s4) ?_ (fun b hb => ?_) hge hle (by rw [putAt_size, putAt_size]; omega) fun j hj => ?_
      · rw [t1]
        show w.heap.size < ((w.alloc (.cells row0 (ρ.t 9))).drew.setCells w.heap.size i [Value.string k]).heap.size
        rw [s1]
        show w.heap.size < (w.alloc (.cells row0 (ρ.t 9))).heap.size
        rw [World.size_alloc]; omega
      · rw [t5 b (by omega)]
        show ((w.alloc (.cells row0 (ρ.t 9))).drew.setCells w.heap.size i [Value.string k]).heap[b]? = _
        rw [s5 b (by omega)]
        exact heap_alloc_lt hb
      · rw [putAt_at _ _ _ _ (by rw [putAt_size]; simp; omega), putAt_at _ _ _ _ (by simp; omega)]
        simp only [List.length_singleton, List.length_drop, List.length_map, Nat.zero_add]
        have hje := ins_at (k := k) hi (j := j) (by rw [← hL']; exact hj)
        simp only [← hL'] at hje
        rw [hje]
        by_cases h1 : j < i
        · rw [if_neg (by omega), if_neg (by omega), dif_pos h1, hrow0, Array.append_assoc, Array.getElem?_append_left (by simp; omega), List.getElem?_toArray, List.getElem?_take_of_lt h1, List.getElem?_map, List.getElem?_eq_getElem (by omega)]; rfl
        · rw [dif_neg h1]
          by_cases h2 : j = i
          · rw [if_neg (by omega), if_pos (by omega), dif_pos h2, show j - i = 0 by omega]; rfl
          · rw [if_pos (by omega), dif_neg h2, List.getElem?_drop, List.getElem?_map, show i + (j - (i + 1)) = j - 1 by omega, List.getElem?_eq_getElem (by omega)]; rfl
end Go.Vc

/- slices.Compact at texts, in place: the kit's contract, carried over. -/
namespace Go.Vc
set_option linter.all false
open Go.Proofs Go.Shelf Go.Sort Go.RowKit
open T (hdr blk)
theorem Meets.compactStrs {P : Program} {ρ : Ren} (Ly : Lays.n194 P ρ) (hb : HasBody P (ρ.f 194)) (l C : List ByteArray) (hC : Lib.compact (l.map ByteArray.toList) = C.map ByteArray.toList) (ex : Bool) (h0 : 0 < l.length) (hl : l.length ≤ 1000000000) :
    Meets P (ρ.f 194) [.sl true () 1 (strs l)] (.cons (.sub 0 [] 0 l.length ex) .nil) fun av X κ => av = .sub 0 [] 0 C.length false ∧ X = [.sl true () 1 (strs (C ++ List.replicate (l.length - C.length) ⟨#[]⟩))] ∧ κ = [(0, [.i 0])] := by
  refine ⟨hb, fun w I F0 vs hY hH hnd hap hlt hilt hvs => ?_⟩
  obtain ⟨g0, rfl⟩ : ∃ g0, F0 = [g0] := by
    rcases F0 with _ | ⟨g, _ | ⟨_, _⟩⟩
    · simp at hY
    · exact ⟨g, rfl⟩
    · simp at hY
  obtain ⟨a, s, rfl, hs⟩ : ∃ a s, g0 = .sl true a 1 s ∧ s.erase = strs l := by
    simp only [List.map_cons, List.map_nil, List.cons.injEq, and_true] at hY
    cases g0 <;> simp only [T.erase, reduceCtorEq, T.sl.injEq] at hY
    obtain ⟨rfl, _, rfl, h⟩ := hY
    exact ⟨_, _, rfl, h⟩
  obtain rfl := strs0_of hs
  have hg := hH _ (List.mem_singleton.2 rfl)
  obtain ⟨q1, q2, q3, q4⟩ := id hg
  have hlen := strs0_len l
  obtain ⟨x, c, rfl, hsp, row, e, hrow, hsz, hcell⟩ : ∃ (x : Addr) (c : Nat), a = .slice (some x) l.length (c + 1) ∧ x.spot = none ∧ ∃ row e, w.heap[x.block]? = some (.cells row e (0, 0)) ∧ x.off + (c + 1) ≤ row.size ∧ ∀ j v, (strs0 l).cells[j]? = some v → row[x.off + j]? = some v := by
    split at q4
    · omega
    · omega
    · rename_i x n c
      obtain ⟨h1, h2, h3, h4, h5, row, e, fr, h6, h7, h8, h9⟩ := q4
      obtain rfl := h7 rfl
      rw [hlen] at h2
      subst h2
      exact ⟨x, c, rfl, h1, row, e, h6, by omega, h9⟩
    · exact q4.elim
  obtain ⟨v, vs', rfl, hv, hvn⟩ := hvs
  obtain rfl : vs' = [] := hvn
  obtain ⟨own', a', z', len', v', hh, hvv, hsub⟩ := hv
  simp only [hdrF, List.getElem?_cons_zero, Option.bind_some, T.at_, hdr, Option.some.injEq, Prod.mk.injEq] at hh
  obtain ⟨rfl, rfl, rfl, rfl⟩ := hh
  simp only [List.cons.injEq, and_true] at hvv
  subst hvv
  obtain ⟨A, cc, rfl, k1, k2, k3, k4, k5⟩ := hsub
  obtain ⟨y, rfl, y1, y2, y3, y4, y5⟩ := k5
  have hy5 := y5 (by omega)
  obtain ⟨yb, yo, ys⟩ := y
  simp only at y1 y2 hy5
  subst y1; subst y2
  obtain rfl : yo = x.off := by omega
  have hbs : x.block < w.heap.size := (Array.getElem?_eq_some_iff.1 hrow).1
  have hcl : ∀ j, (hj : j < l.length) → row[x.off + j]? = some (Value.string l[j]) := fun j hj => hcell j _ (by rw [strs0_cells]; simp [hj])
  have hCl : C.length ≤ l.length := by
    have := Lib.compact_length_le (l.map ByteArray.toList)
    rw [hC] at this; simpa using this
  obtain ⟨M, hM⟩ : ∃ M, M = C ++ List.replicate (l.length - C.length) (⟨#[]⟩ : ByteArray) := ⟨_, rfl⟩
  have hMl : M.length = l.length := by rw [hM, List.length_append, List.length_replicate]; omega
  obtain ⟨S, hS⟩ : ∃ S, S = l.map ByteArray.toList := ⟨_, rfl⟩
  have hSl : S.length = l.length := by rw [hS, List.length_map]
  have hHk : Go.Sort.Holds encStr w x.block x.off S.toArray := fun j hj => by
    have hj' : j < l.length := by rw [← hSl]; simpa using hj
    have h1 := hcl j hj'
    have h2 : encStr S.toArray[j]! = Value.string l[j] := by
      rw [getElem!_pos _ j hj]
      simp only [hS, List.getElem_toArray, List.getElem_map]
      exact enc_str _
    refine ⟨?_, ?_⟩
    · rw [h2]
      simp [World.cell?, hrow, h1]
    · simp [World.frozen?, hrow]
  obtain ⟨M', hM'⟩ : ∃ M' : List (List UInt8), M' = M.map ByteArray.toList := ⟨_, rfl⟩
  have hMl' : M'.length = l.length := by rw [hM', List.length_map, hMl]
  have hSM : Lib.compact S ++ List.replicate (S.length - (Lib.compact S).length) [] = M' := by
    rw [hM', hM, hS, hC, List.map_append, List.length_map, List.length_map, List.map_replicate]
    have he : (⟨#[]⟩ : ByteArray).toList = [] := by rw [Go.ByteArray.toList_eq]
    rw [he]
  have hcall := Any.slices_Compact_string Ly x.block x.off cc S w hHk (by omega) (by omega)
  rw [hSM, hSl, show (Lib.compact S).length = C.length by rw [hS, hC, List.length_map]] at hcall
  refine hcall.mono ?_
  rintro e' w' ⟨rfl, n, rfl⟩
  obtain ⟨os, hos⟩ : ∃ os : Array Obj, os = #[] := ⟨_, rfl⟩
  have hgr : putRow encStr (Go.Sort.ahead w n) x.block x.off M'.toArray = grow (putRow encStr (Go.Sort.ahead w n) x.block x.off M'.toArray) os := by rw [hos, grow_empty]
  rw [hgr]
  rw [← hM]
  have hheap : (grow (putRow encStr (Go.Sort.ahead w n) x.block x.off M'.toArray) os).heap = w.heap.modify x.block (onCells (putCells encStr x.off M'.toArray)) ++ os := rfl
  have hsz2 : w.heap.size ≤ (grow (putRow encStr (Go.Sort.ahead w n) x.block x.off M'.toArray) os).heap.size := by rw [hheap]; simp
  have hat : (grow (putRow encStr (Go.Sort.ahead w n) x.block x.off M'.toArray) os).heap[x.block]? = some (.cells (putCells encStr x.off M'.toArray row) e (0, 0)) := by
    rw [hheap, Array.getElem?_append_left (by simpa using hbs), Array.getElem?_modify, if_pos rfl, hrow]; rfl
  have hot : ∀ b, b < w.heap.size → b ≠ x.block → (grow (putRow encStr (Go.Sort.ahead w n) x.block x.off M'.toArray) os).heap[b]? = w.heap[b]? := fun b hb hne => by
    rw [hheap, Array.getElem?_append_left (by simpa using hb), Array.getElem?_modify, if_neg (Ne.symm hne)]
  have hown : own [T.sl true (Value.slice (some x) l.length (c + 1)) 1 (strs0 l)] = [x.block] := by simp [own, T.owned, strs0_owned, T.blk]
  have hown2 : own [T.sl true (Value.slice (some x) l.length (c + 1)) 1 (strs0 M)] = [x.block] := by simp [own, T.owned, strs0_owned, T.blk]
  rw [hown] at hnd hap hlt
  have hIx : ∀ b, I b → (grow (putRow encStr (Go.Sort.ahead w n) x.block x.off M'.toArray) os).heap[b]? = w.heap[b]? := fun b hb => hot b (hilt b hb) fun e => hap x.block (by simp) (e ▸ hb)
  refine ⟨.slice (some ⟨x.block, x.off, none⟩) C.length cc, .sub 0 [] 0 C.length false, _, _, I, [.sl true (.slice (some x) l.length (c + 1)) 1 (strs0 M)], rfl, ⟨rfl, rfl, rfl⟩, ⟨?_, ?_, ?_, ?_, ?_, ?_, rfl, rfl, rfl, hsz2, ?_, ?_, fun _ h => h, fun b h => .inl h, ?_⟩, ?_⟩
  · simp [T.erase, strs0_erase]
  · intro g hg'
    rw [List.mem_singleton] at hg'
    subst hg'
    refine ⟨strs0_holds _ _ _, strs0_uni _, (fun h => by cases h), ?_⟩
    have hMn : (strs0 M).len = l.length := by rw [strs0_len, hMl]
    refine ⟨hsp, hMn.symm, by omega, by omega, (fun h => by cases h), _, e, (0, 0), hat, fun _ => rfl, ?_, ?_⟩
    · simp only [putCells, Array.size_mapIdx]; omega
    · intro j v hj
      rw [strs0_cells, List.getElem?_map] at hj
      by_cases hjl : j < M.length
      · rw [List.getElem?_eq_getElem hjl, Option.map_some, Option.some.injEq] at hj
        have h1 := hcl j (by omega)
        simp only [putCells, Array.getElem?_mapIdx, h1, Option.map_some, Option.some.injEq]
        rw [if_pos ⟨by omega, by simp; omega⟩, ← hj, show x.off + j - x.off = j by omega, getElem!_pos _ j (by simp; omega)]
        simp only [hM', List.getElem_toArray, List.getElem_map]
        exact enc_str _
      · rw [List.getElem?_eq_none (by omega)] at hj; cases hj
  · rw [hown2]; exact hnd
  · rw [hown2]; exact hap
  · rw [hown2]; exact fun b hb => Nat.lt_of_lt_of_le (hlt b hb) hsz2
  · exact fun b hb => Nat.lt_of_lt_of_le (hilt b hb) hsz2
  · intro b hb hbn
    refine hot b hb fun e => hbn ?_
    show b ∈ own [T.sl true (Value.slice (some x) l.length (c + 1)) 1 (strs0 l)]
    rw [hown, e]; simp
  · rw [hown2]; intro b hb _
    show b ∈ own [T.sl true (Value.slice (some x) l.length (c + 1)) 1 (strs0 l)]
    rw [hown]; exact hb
  · intro k g0 hk
    cases k with
    | succ k => simp at hk
    | zero =>
      simp only [List.getElem?_cons_zero, Option.some.injEq] at hk
      subst hk
      refine ⟨_, rfl, rfl, fun q hq => ?_, fun q hq => ?_, fun q v hq hd => ?_⟩
      · cases q with
        | nil => rfl
        | cons st q =>
          cases st with
          | f i => rfl
          | d => rfl
          | i k =>
            cases q with
            | cons st' q => simp [dead, mpre] at hq
            | nil =>
              simp only [T.loc, strs0_len, hMl]
      · cases q with
        | nil => simp only [T.at_, hdr, strs0_len, hMl]
        | cons st q =>
          cases st with
          | f i => rfl
          | d => rfl
          | i k => simp [dead, mpre] at hq
      · cases q with
        | nil => simp [T.at_] at hq
        | cons st q =>
          cases st with
          | f i => simp [T.at_] at hq
          | d => simp [T.at_] at hq
          | i k => simp [dead, mpre] at hd
  · refine ⟨true, .slice (some x) l.length (c + 1), 1, l.length, _, by simp [hdrF, T.at_, hdr, strs0_len, hMl], rfl, some ⟨x.block, x.off, none⟩, cc, rfl, by omega, by omega, k3, (fun h => by cases h), ⟨x.block, x.off, none⟩, rfl, rfl, rfl, by omega, by omega, fun _ => by simp⟩
end Go.Vc

/- slices.BinarySearch at texts: the kit's contract, carried over. -/
namespace Go.Vc
set_option linter.all false
open Go.Proofs Go.Shelf Go.RowKit Go.Lib
open T (hdr blk)
theorem Meets.searchStr {P : Program} {ρ : Ren} (Ly : Lays2.n26 P ρ) (hb : HasBody P (ρ.f 26)) (l : List ByteArray) (k : ByteArray) (ex : Bool) (hl : l.length ≤ 1000000) (p : Nat) (hp : p ≤ l.length)
    (h1 : ∀ t, (h : t < l.length) → t < p → sLess l[t] k = true) (h2 : ∀ t, (h : t < l.length) → p ≤ t → sLess l[t] k = false) (hk : sLess k k = false) :
    Meets P (ρ.f 26) [] (.cons (.imm 1 (strs l) ex) (.cons (.val (.string k)) .nil)) fun av X κ => av = .tup (.cons (.val (.int .i64 p)) (.cons (.val (.bool (decide (p < l.length ∧ l[p]? = some k)))) .nil)) ∧ X = [] ∧ κ = [] := by
  refine ⟨hb, fun w I F0 vs hY hH hnd hap hlt hilt hvs => ?_⟩
  obtain rfl : F0 = [] := by simpa using hY
  obtain ⟨v, vs', rfl, hv, v2, vs2, rfl, hv2, hvn⟩ := hvs
  obtain rfl : vs2 = [] := hvn
  have hv2' : v2 = .string k := by obtain ⟨h, _⟩ := hv2; simpa using h
  subst hv2'
  obtain ⟨v', hvv, s', hs', hh, hex⟩ := hv
  clear hex
  simp only [List.cons.injEq, and_true] at hvv
  subst hvv
  obtain rfl := strs0_of hs'
  have hlen := strs0_len l
  obtain ⟨_, _, _, q4⟩ := hh
  have fin : ∀ (w' : World) (b : Bool), (∃ q, w' = w.drewN q) → b = decide (p < l.length ∧ l[p]? = some k) →
      ∃ v av X κ I' F', Ending.returned (.tuple #[.int .i64 p, .bool b]) = .returned v ∧ (av = AV.tup (.cons (.val (.int .i64 p)) (.cons (.val (.bool (decide (p < l.length ∧ l[p]? = some k)))) .nil)) ∧ X = [] ∧ κ = []) ∧
        Inv ⟨P, 0, w, I, []⟩ X κ w' I' F' ∧ Rl w'.heap I' F' av true [v] := by
    rintro w' b ⟨q, rfl⟩ rfl
    refine ⟨_, _, [], [], I, [], rfl, ⟨rfl, rfl, rfl⟩, ⟨rfl, (by simp), hnd, hap, hlt, hilt, rfl, rfl, rfl, Nat.le_refl _, fun _ _ _ => rfl, (fun b hb => by cases hb), fun _ h => h, fun _ h => .inl h, fun k g hk => by simp at hk⟩, ?_⟩
    exact ⟨[_, _], rfl, _, _, rfl, ⟨rfl, rfl⟩, _, _, rfl, ⟨rfl, rfl⟩, rfl⟩
  by_cases h0 : l.length = 0
  · have hp0 : p = 0 := by omega
    subst hp0
    obtain ⟨A, c, rfl⟩ : ∃ A c, v = .slice A 0 c := by
      split at q4
      · obtain ⟨rfl, rfl, _⟩ := q4; exact ⟨_, _, rfl⟩
      · obtain ⟨rfl, _⟩ := q4; exact ⟨_, _, rfl⟩
      · rename_i x n c
        obtain ⟨_, hn, _⟩ := q4
        have : n = 0 := by omega
        subst this; exact ⟨_, _, rfl⟩
      · exact q4.elim
    refine (Any2.slices_BinarySearch_string_empty Ly A c k w).mono ?_
    rintro e' w' ⟨rfl, hw⟩
    exact fin w' false ⟨0, by rw [hw]; rfl⟩ (by symm; rw [decide_eq_false_iff_not]; omega)
  · obtain ⟨x, c, rfl, row, e, fr, hrow, hcell⟩ : ∃ (x : Addr) (c : Nat), v = .slice (some ⟨x.block, x.off, none⟩) l.length c ∧ ∃ row e fr, w.heap[x.block]? = some (.cells row e fr) ∧ ∀ j v, (strs0 l).cells[j]? = some v → row[x.off + j]? = some v := by
      split at q4
      · omega
      · omega
      · rename_i x n c
        obtain ⟨p1, p2, p3, p4, p5, row, e, fr, p6, p7, p8, p9⟩ := q4
        rw [hlen] at p2
        subst p2
        refine ⟨x, c + 1, ?_, row, e, fr, p6, p9⟩
        obtain ⟨xb, xo, xs⟩ := x
        simp only at p1
        subst p1; rfl
      · exact q4.elim
    have hbs := Any2.slices_BinarySearch_string Ly x.block x.off l.length c (fun j => l.getD j k) k w (by omega) (fun j hj => by
      have := hcell j (.string l[j]) (by rw [strs0_cells]; simp [hj])
      simp [World.cell?, hrow, this, List.getD_eq_getElem?_getD, hj])
    have hsp : Lib.bsGo (fun t => Op.bytesLess (l.getD t k).toList k.toList) l.length 0 l.length = p := by
      refine bsGo_spec _ p (fun t ht => ?_) (fun t ht => ?_) _ _ _ (by omega) (by omega) hp
      · have htl : t < l.length := by omega
        have := h1 t htl ht
        simpa [sLess, List.getD_eq_getElem?_getD, htl] using this
      · by_cases htl : t < l.length
        · have := h2 t htl ht
          simpa [sLess, List.getD_eq_getElem?_getD, htl] using this
        · simpa [sLess, List.getD_eq_getElem?_getD, List.getElem?_eq_none (Nat.le_of_not_lt htl)] using hk
    rw [hsp] at hbs
    refine hbs.mono ?_
    rintro e' w' ⟨rfl, hw⟩
    refine fin w' _ hw ?_
    refine decide_eq_decide.2 ⟨fun ⟨a, b⟩ => ⟨a, ?_⟩, fun ⟨a, b⟩ => ⟨a, ?_⟩⟩
    · rw [List.getElem?_eq_getElem a] at *; simpa [List.getD_eq_getElem?_getD, a] using b
    · simp [List.getD_eq_getElem?_getD, b]
end Go.Vc

/- The rule of a loop over a function with one parameter. -/
namespace Go.Vc
set_option linter.all false
open T (hdr blk)
theorem hdrF_base {P : Program} {nt : Nat} {W : World} {I : Nat → Prop} {F : List G} {X : List D} {κ : List (Nat × Path)} {W' : World} {I' : Nat → Prop} {F' : List G} (i : Inv ⟨P, nt, W, I, F⟩ X κ W' I' F') {k : Nat} {q : Path} {u : Bool × Value × Nat × Nat}
    (hd : dead κ k q true = false) (h : hdrF F k q = some u) : hdrF F' k q = some u := by
  unfold hdrF at *
  cases hk : F[k]? with
  | none => rw [hk] at h; cases h
  | some g =>
    obtain ⟨g', h1, _, _, h3, _⟩ := i.base k g hk
    rw [hk] at h
    rw [h1]
    simp only [Option.bind_some] at h ⊢
    rw [h3 q hd]; exact h
theorem VC.rangeFunc1 {c : Cx} {st : St} {g : Operand} {p0 : Tmp} {assign body : Code} {K : Exit → St → Prop} {gf : FuncId} {s : AV} (hil : ∀ b, c.I0 b → b < c.w0.heap.size)
    (hg : st.ev g = .fn gf s) (hbody : HasBody c.P gf) (N : Nat) (v0 : Nat → Value) (h0c : ∀ j, (v0 j).oneCell' = true) (hp0 : p0 < c.nt)
    (X : Nat → List D) (hX0 : X 0 = st.X) (env2 : Nat → Env) (pin : Nat) (hsl : ∃ d o z s, st.X[pin]? = some d ∧ d.at_ [.d] = .sl o () z s) (Rd : List Value → Bool × Value × Nat × Nat → World → Prop)
    (hiter : ∀ lbs hd, IterC c.P gf lbs.toArray N (fun j => #[v0 j]) (Rd lbs hd))
    (hread : ∀ j W I F lbs hd, F.map T.erase = X j → (∀ g ∈ F, T.Holds W.heap I g) → Rl W.heap I F s true lbs → hdrF F pin [.d] = some hd → Rd lbs hd W)
    (hA : ∀ j, j < N → ∀ w0 I0 F0, F0.length = (X j).length → VI ⟨c.P, c.nt, w0, I0, F0⟩ assign (fun st' => st' = ⟨env2 j, X j, [], st.pl⟩) ⟨(p0, .val (v0 j)) :: st.env, X j, [], st.pl⟩)
    (hB : ∀ j, j < N → ∀ w0 I0 F0, F0.length = (X j).length → VI ⟨c.P, c.nt, w0, I0, F0⟩ body (fun st' => st'.X = X (j + 1) ∧ (∀ k q s, k < c.F0.length → dead st'.κ k q s = false) ∧ st.env.kill st'.κ = st.env ∧ plKill st'.κ st.pl = st.pl ∧ dead st'.κ pin [.d] true = false) ⟨env2 j, X j, [], st.pl⟩)
    (hK : K .normal { st with X := X N }) : VC c (.rangeFunc g #[p0] assign body) K st := by
  intro a w ⟨⟨Ds, hds, hdn, hdD⟩, hs, I, F, hi, he, hp⟩
  refine (wpIn_wide (n := 2)).1 (wpIn_rangeFunc ?_)
  intro fn hfn
  obtain ⟨lbs, hgv⟩ : ∃ lbs : List Value, a.eval g = .func (.func gf) #[] lbs.toArray := by
    have := he.ev g
    rw [hg] at this
    obtain ⟨l, h1, _⟩ := this
    exact ⟨l, (List.cons.inj h1).1⟩
  obtain ⟨rec, hrec⟩ : ∃ rec : LoopState → Loop, rec = fun s => { state := s, pending := none, fn, tmps := a.tmps, params := #[p0], assign, body, defers := w.heap.size } := ⟨_, rfl⟩
  obtain ⟨W1, hW1⟩ : ∃ W1, (w.alloc (.deferred (some []))).alloc (.loop (rec .ready)) = W1 := ⟨_, rfl⟩
  have hsz := hi.size
  have hL1 : W1.heap[w.heap.size + 1]? = some (.loop (rec .ready)) := by
    rw [← hW1]; have := World.alloc_heap_new (w.alloc (.deferred (some []))) (.loop (rec .ready)); rwa [World.size_alloc] at this
  have hM1 : W1.heap[w.heap.size]? = some (.deferred (some [])) := by
    rw [← hW1, heap_alloc (by rw [World.size_alloc]; omega)]; exact World.alloc_heap_new w _
  obtain ⟨u0, hu0⟩ : ∃ u, hdrF F pin [.d] = some u := by
    obtain ⟨d, o, z, sd, h1, h2⟩ := hsl
    rw [← hi.erase, List.getElem?_map] at h1
    cases hk : F[pin]? with
    | none => rw [hk] at h1; cases h1
    | some g =>
      rw [hk, Option.map_some, Option.some.injEq] at h1
      rw [← h1, ← T.erase_at] at h2
      unfold hdrF
      rw [hk, Option.bind_some]
      generalize g.at_ [.d] = x at h2
      cases x <;> simp only [T.erase, reduceCtorEq] at h2
      exact ⟨_, rfl⟩
  obtain ⟨J, hJ⟩ : ∃ J : Nat → World → Prop, J = fun j W => ∃ I F, hdrF F pin [.d] = some u0 ∧ Inv c (X j) st.κ W I F ∧ EnvOk st.env a W I F ∧ PlOk st.pl W I F ∧ Dfs c.w0.heap.size (mark w.heap.size :: a.defers) W ∧ W.heap[w.heap.size + 1]? = some (.loop (rec .ready)) := ⟨_, rfl⟩
  have hstart : J 0 W1 := by
    obtain ⟨I1, i1, r1⟩ := Inv.shut (Ds := []) hil hi (fun _ h => by cases h) (shut_alloc w (.deferred (some [])))
    obtain ⟨I2, i2, r2⟩ := Inv.shut (Ds := []) hil i1 (fun _ h => by cases h) (shut_alloc _ (.loop (rec .ready)))
    rw [hW1] at i2 r2
    rw [hJ]
    refine ⟨I2, F, hu0, by rw [hX0]; exact i2, fun t => r2 (r1 (he t)), hp.turn fun H => r2 (r1 H), ⟨w.heap.size :: Ds, by rw [hds]; rfl, List.nodup_cons.2 ⟨fun hm => ?_, hdn⟩, fun D hD => ?_⟩, hL1⟩
    · have := (Array.getElem?_eq_some_iff.1 (hdD _ hm).2).1; omega
    · rcases List.mem_cons.1 hD with rfl | hD
      · exact ⟨hsz, hM1⟩
      · obtain ⟨q1, q2⟩ := hdD D hD
        have hlt := (Array.getElem?_eq_some_iff.1 q2).1
        refine ⟨q1, ?_⟩
        rw [← hW1, heap_alloc (by rw [World.size_alloc]; omega), heap_alloc hlt]; exact q2
  have hrd : ∀ j W, J j W → Rd lbs u0 W := fun j W hj => by
    rw [hJ] at hj
    obtain ⟨I', F', u1, i1, e1, _⟩ := hj
    have := e1.ev g
    rw [hg] at this
    obtain ⟨l, h1, h2⟩ := this
    rw [hgv] at h1
    simp only [List.cons.injEq, Value.func.injEq, and_true, true_and] at h1
    have : lbs = l := by simpa using h1
    subst this
    exact hread j W I' F' lbs u0 i1.erase i1.holds h2 u1
  refine ⟨w.heap.size + 1, [mark w.heap.size], W1, { target := .fn (.func gf) lbs.toArray, args := #[.func (.yield (w.heap.size + 1)) #[] #[]] }, W1, gf, #[.func (.yield (w.heap.size + 1)) #[] #[]] ++ lbs.toArray, W1, ?_, ?_, fun _ _ => trivial, ?_, fun _ => by omega, ?_⟩
  · rw [← hW1, hrec]; exact run_enterLoop_outer _ _ _ _ _
  · simp only [resolve, hgv]
    simp [go_sem]
  · simp [invoke, go_sem, run_callFunc hbody]
  · refine CallsIn.mono (hiter lbs u0 1 (Nat.le_refl _) (w.heap.size + 1) J (fun j W hj hlt => ?_) hrd W1 hstart) ?_
    · rw [hJ] at hj
      obtain ⟨I1, F1, u1, i1, e1, p1', d1, l1⟩ := hj
      have hlt1 : w.heap.size + 1 < W.heap.size := (Array.getElem?_eq_some_iff.1 l1).1
      have hy := run_yield (P := c.P) (args := #[v0 j]) l1 (by rw [hrec]; rfl)
      rw [hrec] at hy
      refine ⟨fn, _, assign, body, hy, roundIn_of_wpIn hfn ?_⟩
      have R1 : Rel ⟨c.P, c.nt, W, I1, F1⟩ ⟨(p0, .val (v0 j)) :: st.env, X j, [], st.pl⟩ { tmps := a.tmps.setIfInBounds p0 (v0 j), defers := [] } W := by
        refine ⟨Dfs.none _ _, by simp [hs], I1, F1, i1.rebase c.nt, fun t => ?_, p1'⟩
        simp only [look]
        by_cases q0 : p0 = t
        · subst q0
          rw [if_pos rfl]
          exact ⟨by simp [Array.getD_eq_getD_getElem?, hs, hp0], h0c j⟩
        · rw [if_neg q0]
          have := e1 t
          simpa [Array.getD_eq_getD_getElem?, Array.getElem?_setIfInBounds_ne q0] using this
      have hfold : ((#[p0] : Array Tmp).zip #[v0 j]).foldl (fun tmps (t, a) => tmps.setIfInBounds t a) a.tmps = a.tmps.setIfInBounds p0 (v0 j) := by simp
      simp only [hfold]
      refine wpIn_mono (hA j hlt W I1 F1 (by rw [← i1.erase]; simp) _ W _ _ R1) ?_
      rintro e a2 W2 ⟨rfl, ⟨st2, rfl, hr2⟩, hde2⟩
      obtain ⟨_, hs2, I2, F2, i2, e2, p2⟩ := hr2
      have S2 := Stp.of_inv (nb := c.F0.length) i2
      have i2c := i1.step S2
      rw [i2.erase, List.nil_append] at i2c
      have e2c := e1.step i1 S2
      rw [Env.kill_nil] at e2c
      have p2c := p1'.step i1 S2
      rw [plKill_nil] at p2c
      have d2 := d1.step i1 S2
      have l2 : W2.heap[w.heap.size + 1]? = some (.loop (rec .ready)) := (i2.frame _ hlt1 (own_not_book i1.holds l1 trivial)).trans l1
      have hlt2 : w.heap.size + 1 < W2.heap.size := (Array.getElem?_eq_some_iff.1 l2).1
      refine ⟨_, run_beginRound l2 (by rw [hrec]), ?_⟩
      obtain ⟨I3, i3, r3⟩ := Inv.shut hil i2c (Ds := [w.heap.size + 1]) (fun D hD => by simp only [List.mem_singleton] at hD; subst hD; exact ⟨by omega, _, l2, trivial⟩) (shut_put (.loop { rec .ready with state := .busy }) hlt2)
      have l3 : (W2.putObj (w.heap.size + 1) (.loop { rec .ready with state := .busy })).heap[w.heap.size + 1]? = some (.loop { rec .ready with state := .busy }) := World.putObj_heap_same hlt2
      have d3 : Dfs c.w0.heap.size (mark w.heap.size :: a.defers) (W2.putObj (w.heap.size + 1) (.loop { rec .ready with state := .busy })) := d2.turn fun D _ h => by
        have hne : D ≠ w.heap.size + 1 := fun e => by subst e; rw [l2] at h; cases h
        exact (World.putObj_heap_other hne).trans h
      have R3 : Rel ⟨c.P, c.nt, W2.putObj (w.heap.size + 1) (.loop { rec .ready with state := .busy }), I3, F2⟩ ⟨env2 j, X j, [], st.pl⟩ a2 (W2.putObj (w.heap.size + 1) (.loop { rec .ready with state := .busy })) :=
        ⟨by rw [hde2]; exact Dfs.none _ _, hs2, I3, F2, i3.rebase c.nt, fun t => r3 (e2 t), p2c.turn r3⟩
      refine wpIn_mono (hB j hlt _ I3 F2 (by have := congrArg List.length i3.erase; simpa using this) a2 _ _ _ R3) ?_
      rintro e a4 W4 ⟨rfl, ⟨st4, ⟨hx4, hκ4, hk4, hpk4, hpin4⟩, hr4⟩, _⟩
      obtain ⟨_, hs4, I4, F4, i4, e4, p4⟩ := hr4
      have S4 := Stp.of_inv (nb := c.F0.length) i4
      have i4c := (i3.step S4).unkill hκ4
      rw [i4.erase, hx4] at i4c
      have e4c := EnvOk.step (e := st.env) (a := a) i3 S4 (fun t => r3 (e2c t))
      rw [hk4] at e4c
      have p4c := (p2c.turn r3).step i3 S4
      rw [hpk4] at p4c
      have d4 := d3.step i3 S4
      have l4 : W4.heap[w.heap.size + 1]? = some (.loop { rec .ready with state := .busy }) := (i4.frame _ (Array.getElem?_eq_some_iff.1 l3).1 (own_not_book i3.holds l3 trivial)).trans l3
      have hlt4 : w.heap.size + 1 < W4.heap.size := (Array.getElem?_eq_some_iff.1 l4).1
      refine ⟨_, _, run_endRound none l4, rfl, ?_⟩
      obtain ⟨I5, i5, r5⟩ := Inv.shut hil i4c (Ds := [w.heap.size + 1]) (fun D hD => by simp only [List.mem_singleton] at hD; subst hD; exact ⟨by omega, _, l4, trivial⟩) (shut_put (.loop { rec .ready with state := .ready, pending := none }) hlt4)
      rw [hJ]
      refine ⟨I5, F4, hdrF_base i4 hpin4 (hdrF_base i2 (by simp [dead]) u1), i5, fun t => r5 (e4c t), p4c.turn r5, d4.turn fun D _ h => ?_, ?_⟩
      · have hne : D ≠ w.heap.size + 1 := fun e => by subst e; rw [l4] at h; cases h
        exact (World.putObj_heap_other hne).trans h
      · have := World.putObj_heap_same (o := .loop { rec .ready with state := .ready, pending := none }) hlt4
        rw [hrec] at this ⊢
        exact this
    · rintro e W2 ⟨⟨v, rfl⟩, hj⟩
      rw [hJ] at hj
      obtain ⟨I1, F1, u1, i1, e1, p1', d1, l1⟩ := hj
      have hlt1 : w.heap.size + 1 < W2.heap.size := (Array.getElem?_eq_some_iff.1 l1).1
      refine ⟨none, _, by have := run_endLoop (P := c.P) l1 (by rw [hrec]; simp); rw [hrec] at this; exact this, ?_⟩
      obtain ⟨I5, i5, r5⟩ := Inv.shut hil i1 (Ds := [w.heap.size + 1]) (fun D hD => by simp only [List.mem_singleton] at hD; subst hD; exact ⟨by omega, _, l1, trivial⟩) (shut_put (.loop { rec .ready with state := .exhausted }) hlt1)
      rw [hrec] at i5 r5
      refine ⟨{ st with X := X N }, hK, d1.turn fun D _ h => ?_, hs, I5, F1, i5, fun t => r5 (e1 t), p1'.turn r5⟩
      have hne : D ≠ w.heap.size + 1 := fun e => by subst e; rw [l1] at h; cases h
      exact (World.putObj_heap_other hne).trans h
theorem VS.rangeFunc1 {c : Cx} {st : St} {g : Operand} {p0 : Tmp} {assign body : Code} {l : List Code} {K : Exit → St → Prop} {gf : FuncId} {s : AV} (hil : ∀ b, c.I0 b → b < c.w0.heap.size)
    (hg : st.ev g = .fn gf s) (hbody : HasBody c.P gf) (N : Nat) (v0 : Nat → Value) (h0c : ∀ j, (v0 j).oneCell' = true) (hp0 : p0 < c.nt)
    (X : Nat → List D) (hX0 : X 0 = st.X) (env2 : Nat → Env) (pin : Nat) (hsl : ∃ d o z s, st.X[pin]? = some d ∧ d.at_ [.d] = .sl o () z s) (Rd : List Value → Bool × Value × Nat × Nat → World → Prop)
    (hiter : ∀ lbs hd, IterC c.P gf lbs.toArray N (fun j => #[v0 j]) (Rd lbs hd))
    (hread : ∀ j W I F lbs hd, F.map T.erase = X j → (∀ g ∈ F, T.Holds W.heap I g) → Rl W.heap I F s true lbs → hdrF F pin [.d] = some hd → Rd lbs hd W)
    (hA : ∀ j, j < N → ∀ w0 I0 F0, F0.length = (X j).length → VI ⟨c.P, c.nt, w0, I0, F0⟩ assign (fun st' => st' = ⟨env2 j, X j, [], st.pl⟩) ⟨(p0, .val (v0 j)) :: st.env, X j, [], st.pl⟩)
    (hB : ∀ j, j < N → ∀ w0 I0 F0, F0.length = (X j).length → VI ⟨c.P, c.nt, w0, I0, F0⟩ body (fun st' => st'.X = X (j + 1) ∧ (∀ k q s, k < c.F0.length → dead st'.κ k q s = false) ∧ st.env.kill st'.κ = st.env ∧ plKill st'.κ st.pl = st.pl ∧ dead st'.κ pin [.d] true = false) ⟨env2 j, X j, [], st.pl⟩)
    (hK : VS c l K { st with X := X N }) : VS c (.rangeFunc g #[p0] assign body :: l) K st := by
  have h := VC.rangeFunc1 (K := thenK (VS c l K) K) hil hg hbody N v0 h0c hp0 X hX0 env2 pin hsl Rd hiter hread hA hB hK
  with_unfolding_all exact h
def St.settle (nb : Nat) (st : St) (k : Nat) (q : Path) (av : AV) : St where
  env := st.env.kill ((av.lay nb st.X).κ ++ [(k, q)])
  X := (av.lay nb st.X).X.set k (((av.lay nb st.X).tree k).set q (av.lay nb st.X).d)
  κ := (bif Nat.ble nb k then [] else [(k, q)]) ++ st.κ
  pl := plKill ((av.lay nb st.X).κ ++ [(k, q)]) st.pl
theorem Rel.settle {c : Cx} {st : St} {a : Act} {w : World} (h : Rel c st a w) {k : Nat} {q : Path} {av : AV} (hm : (k, q, av) ∈ st.pl) (hq : q ≠ []) (hok : ((av.lay c.F0.length st.X).tree k).okp q = true)
    (hne : T.noEntry ((av.lay c.F0.length st.X).tree k) q = true) : Rel c (st.settle c.F0.length k q av) a w := by
  obtain ⟨hd, hs, I, F, hi, he, hp⟩ := h
  obtain ⟨f, v, hf, hj, hv⟩ := hp k q av hm
  obtain ⟨F1, x, L, hsq⟩ := lay_ok (nb := c.F0.length) (F0 := F) (κ0 := []) hi.holds (KeepR.refl _ F) hv
  rw [hi.erase] at L
  have hb := fun k q s => @lay_bases c.F0.length av st.X k q s
  unfold St.settle
  generalize av.lay c.F0.length st.X = r at *
  obtain ⟨g, hg, hgf⟩ := L.keep.2 k f hf
  have htree : r.tree k = g.erase := by
    unfold Tk.tree
    rw [← L.erase, List.getD_eq_getElem?_getD, List.getElem?_map, hg]; rfl
  rw [htree, T.okp_erase] at hok
  rw [htree, T.noEntry_erase] at hne
  have hgf : g = f := by
    rcases hgf with h | ⟨⟨a', rfl⟩, _⟩
    · exact h
    · cases q with
      | nil => exact absurd rfl hq
      | cons st' q => cases st' <;> simp [T.okp] at hok
  subst hgf
  have hc : x.cells = (g.at_ q).cells := by rw [L.cells, hj]; rfl
  have hw := T.width_of_cells hc
  have hgm := List.mem_of_getElem? hg
  have hset : T.Holds w.heap I (g.set q x) := T.Holds.set_same L.xholds (fun _ _ => rfl) (fun _ h => h) (L.holds g hgm) hok hne hc (fun _ _ => rfl)
  have hcnt : ∀ b', (own (F1.set k (g.set q x))).count b' ≤ (own F).count b' := fun b' => by
    have h1 := own_set hg (g.set q x) b'
    have h2 := L.count b'
    have h3 := (T.count_rest hok b').1
    have h4 := (T.count_rest hok b').2 x
    omega
  have hmem : ∀ b' ∈ own (F1.set k (g.set q x)), b' ∈ own F := fun b' hb' => by
    have := hcnt b'
    rw [mem_of_count] at *; omega
  obtain ⟨k1, k2, k3⟩ := keep_any (k := k) hw hok
  have S : Stp w w I I F (F1.set k (g.set q x)) (r.κ ++ [(k, q)]) c.F0.length := {
    holds := fun g' hg' => by
      rcases List.mem_or_eq_of_mem_set hg' with h' | h'
      · exact L.holds _ h'
      · subst h'; exact hset
    nodup := nodup_of_count fun b' => Nat.le_trans (hcnt b') (count_le_one hi.nodup b')
    apart := fun b' hb' => hi.apart b' (hmem b' hb')
    mine := fun b' hb' => .inl (hmem b' hb')
    lt := fun b' hb' => hi.lt b' (hmem b' hb')
    ilt := hi.ilt
    heap := fun _ _ _ => rfl
    size := Nat.le_refl _
    os := rfl
    tape := rfl
    output := rfl
    imono := fun _ h => h
    inew := fun _ h => .inl h
    keep := fun j f hj' => by
      obtain ⟨f1, h1, h2⟩ := L.keep.2 j f hj'
      by_cases e : k = j
      · subst e
        rw [hg] at h1
        cases h1
        rw [hf] at hj'
        cases hj'
        refine ⟨g.set q x, List.getElem?_set_self (List.getElem?_eq_some_iff.1 hg).1, fun _ => T.cells_set_same hok hc, fun q' hd' => k1 q' ?_, fun q' hd' => k2 q' ?_, fun q' v' hv' hd' => k3 q' v' hv' ?_⟩ <;>
          (rw [dead_append, Bool.or_eq_false_iff] at hd'; exact hd'.2)
      · refine ⟨f1, by rw [List.getElem?_set_ne e]; exact h1, ?_⟩
        rcases h2 with rfl | ⟨⟨a', rfl⟩, h3, h4⟩
        · exact ⟨fun _ => rfl, fun _ _ => rfl, fun _ _ => rfl, fun _ _ h _ => h⟩
        · refine ⟨fun h => by omega, fun q' hq' => ?_, fun q' hq' => ?_, fun q' v' _ hq' => ?_⟩
          · rw [dead_append, Bool.or_eq_false_iff] at hq'
            cases q' with
            | nil => simp [T.loc]
            | cons st' q' => rw [dead_roots' L.keep.1 (by simp), h3] at hq'; cases hq'.1
          · rw [dead_append, Bool.or_eq_false_iff, dead_roots L.keep.1, h3] at hq'; cases hq'.1
          · rw [dead_append, Bool.or_eq_false_iff, dead_roots L.keep.1, h3] at hq'; cases hq'.1 }
  refine ⟨hd, hs, I, F1.set k (g.set q x), ?_, he.step hi S, hp.step hi S⟩
  have h1 := hi.step S
  rw [List.append_assoc] at h1
  have h2 := h1.unkill hb
  rw [List.map_set, L.erase, T.erase_set, L.xerase, ← htree] at h2
  cases hn : Nat.ble c.F0.length k with
  | false => simpa [hn] using h2
  | true =>
    have := h2.unkill fun j p s hj => by
      have := Nat.le_of_ble_eq_true hn
      have : (j == k) = false := by simp; omega
      simp [dead, this]
    simpa [hn] using this
theorem VS.settle {c : Cx} {x : Code} {l : List Code} {K : Exit → St → Prop} {st : St} (k : Nat) (q : Path) (av : AV) (hm : (k, q, av) ∈ st.pl) (hq : q ≠ []) (hok : ((av.lay c.F0.length st.X).tree k).okp q = true)
    (hne : T.noEntry ((av.lay c.F0.length st.X).tree k) q = true) (h : VS c (x :: l) K (st.settle c.F0.length k q av)) : VS c (x :: l) K st :=
  VS.ghost (fun _ _ hr => hr.settle hm hq hok hne) h
theorem SubRel.loose {a : Value} {z len lo n : Nat} {v : Value} (h : SubRel a z len lo n true v) : SubRel a z len lo n false v := by
  obtain ⟨A, c, h1, h2, h3, h4, _, h6⟩ := h
  exact ⟨A, c, h1, h2, h3, h4, (fun h => by cases h), h6⟩
theorem Meets.loose {P : Program} {f : FuncId} {Y : List D} {args : AV} {k : Nat} {q : Path} {lo n : Nat} {X0 : List D} {κ0 : List (Nat × Path)} (h : Meets P f Y args fun av X κ => av = .sub k q lo n true ∧ X = X0 ∧ κ = κ0) :
    Meets P f Y args fun av X κ => av = .sub k q lo n false ∧ X = X0 ∧ κ = κ0 := by
  refine ⟨h.1, fun w I F0 vs hY hH hnd hap hlt hil hvs => Calls.mono (h.2 w I F0 vs hY hH hnd hap hlt hil hvs) fun e w' he => ?_⟩
  obtain ⟨v, av, X, κ, I', F', rfl, ⟨rfl, rfl, rfl⟩, hi, hr⟩ := he
  refine ⟨v, _, X, κ, I', F', rfl, ⟨rfl, rfl, rfl⟩, hi, ?_⟩
  obtain ⟨own, a, z, len, v', h1, h2, h3⟩ := hr
  exact ⟨own, a, z, len, v', h1, h2, h3.loose⟩
theorem MeetsP.warmK {P : Program} {f : FuncId} {d0 : D} {Y : List D} {t : AV} {pl pl0 : List (Nat × Path × AV)} {R : AV → List D → List (Nat × Path) → Prop} (h : MeetsP P f Y pl0 (t.chilled d0) R)
    (hpl : ∀ e ∈ pl0, ∃ av, (e.1 + 1, e.2.1, av) ∈ pl ∧ e.2.2 = av.chilled d0)
    (hR : ∀ av X κ, R av X κ → av.plain = true ∧ (∀ x ∈ X, x.allOwn = true)) :
    MeetsP P f (d0 :: Y) pl t fun av X κ => ∃ av0 X0 κ0, R av0 X0 κ0 ∧ av = av0.emb [] 1 ∧ X = d0 :: X0 ∧ κ = κ0.map fun e => (e.1 + 1, e.2) := by
  refine ⟨h.1, fun w I F0 vs hY hH hnd hap hlt hil hp0 hvs => ?_⟩
  obtain ⟨g0, FY, rfl⟩ : ∃ g0 FY, F0 = g0 :: FY := by
    cases F0 with
    | nil => simp at hY
    | cons g0 l => exact ⟨g0, l, rfl⟩
  simp only [List.map_cons, List.cons.injEq] at hY
  obtain ⟨hY, hYs⟩ := hY
  have hg0 := hH g0 (by simp)
  have hcons : ∀ F : List G, own (g0 :: F) = own [g0] ++ own F := fun F => by simp [own]
  have hog : own [g0] = g0.owned := by simp [own]
  rw [hcons] at hnd hap hlt
  obtain ⟨hnd1, hnd2, hnd3⟩ := List.nodup_append.1 hnd
  have harg := hvs.chilled (I' := fun b' => I b' ∨ b' ∈ own [g0]) hg0 (fun _ h => .inl h) (fun b hb => .inr (by rw [hog]; exact hb))
  rw [hY] at harg
  have hp1 : PlOk pl0 w (fun b' => I b' ∨ b' ∈ own [g0]) FY := fun k q av hm => by
    obtain ⟨av', h1, h2⟩ := hpl _ hm
    simp only at h1 h2
    obtain ⟨g, v, q1, q2, q3⟩ := hp0 _ _ _ h1
    have q4 := q3.chilled (I' := fun b' => I b' ∨ b' ∈ own [g0]) hg0 (fun _ h => .inl h) (fun b hb => .inr (by rw [hog]; exact hb))
    rw [hY, ← h2] at q4
    exact ⟨g, v, by simpa using q1, q2, q4⟩
  refine Calls.mono (h.2 w _ FY vs hYs (fun g' hg' => (hH g' (by simp [hg'])).agree (fun _ _ => rfl) (fun _ _ => rfl) fun _ h => .inl h) hnd2
    (fun b' hb h' => h'.elim (hap b' (by simp [hb])) fun h' => hnd3 b' h' b' hb rfl) (fun b' hb => hlt b' (by simp [hb])) (fun b' hb => hb.elim (hil b') fun h' => hlt b' (by simp [h'])) hp1 harg) fun e w' he => ?_
  obtain ⟨v', av, X, κ, I', F', rfl, hRR, hi, hr⟩ := he
  obtain ⟨hp, hX⟩ := hR _ _ _ hRR
  have hframe : ∀ b', b' < w.heap.size → b' ∉ own FY → w'.heap[b']? = w.heap[b']? := fun b' hb hn => hi.frame b' hb hn
  have hfresh : ∀ b' ∈ own F', b' < w.heap.size → b' ∈ own FY := fun b' hb h' => hi.fresh b' hb h'
  have hg0own : ∀ b' ∈ own [g0], w'.heap[b']? = w.heap[b']? := fun b' hb => hframe b' (hlt b' (by simp [hb])) fun h' => hnd3 b' hb b' h' rfl
  refine ⟨v', av.emb [] 1, d0 :: X, κ.map fun e => (e.1 + 1, e.2), I, g0 :: F', rfl, ⟨av, X, κ, hRR, rfl, rfl, rfl⟩, ⟨?_, ?_, ?_, ?_, ?_, ?_, hi.os, hi.tape, hi.output, hi.size, ?_, ?_, fun _ hb => hb, fun _ hb => .inl hb, ?_⟩, hr.shift (g0 := g0) hp⟩
  · simp [hY, hi.erase]
  · intro g' hg'
    rcases List.mem_cons.1 hg' with rfl | hg'
    · exact hg0.agree (fun b' hb => hg0own b' (by simpa [own] using hb)) (fun b' hb => hframe b' (hil b' hb) fun h' => hap b' (by simp [h']) hb) fun _ h => h
    · refine (hi.holds g' hg').own ?_
      rw [← T.allOwn_erase]
      exact hX _ (by rw [← hi.erase]; exact List.mem_map_of_mem hg')
  · rw [hcons]
    refine List.nodup_append.2 ⟨hnd1, hi.nodup, fun x hx y hy hxy => ?_⟩
    subst hxy
    exact hnd3 x hx x (hfresh x hy (hlt x (by simp [hx]))) rfl
  · intro b' hb
    rw [hcons] at hb
    rcases List.mem_append.1 hb with hb | hb
    · exact hap b' (by simp [hb])
    · intro hI
      exact hap b' (by simp [hfresh b' hb (hil b' hI)]) hI
  · intro b' hb
    rw [hcons] at hb
    rcases List.mem_append.1 hb with hb | hb
    · exact Nat.lt_of_lt_of_le (hlt b' (by simp [hb])) hi.size
    · exact hi.lt b' hb
  · exact fun b' hb => Nat.lt_of_lt_of_le (hil b' hb) hi.size
  · intro b' hb hn
    rw [hcons] at hn
    exact hframe b' hb fun h' => hn (by simp [h'])
  · intro b' hb hlt'
    rw [hcons] at hb ⊢
    rcases List.mem_append.1 hb with hb | hb
    · simp [hb]
    · simp [hfresh b' hb hlt']
  · intro k g1 hk
    cases k with
    | zero =>
      simp only [List.getElem?_cons_zero, Option.some.injEq] at hk
      subst hk
      exact ⟨_, rfl, rfl, fun _ _ => rfl, fun _ _ => rfl, fun _ _ h _ => h⟩
    | succ k =>
      simp only [List.getElem?_cons_succ] at hk
      obtain ⟨g', q1, q2, q3, q4, q5⟩ := hi.base k g1 hk
      exact ⟨g', by simpa using q1, q2, fun q hq => q3 q (by rwa [dead_shift] at hq), fun q hq => q4 q (by rwa [dead_shift] at hq), fun q v hv hq => q5 q v hv (by rwa [dead_shift] at hq)⟩
end Go.Vc

/- Texts in order; lists of texts, ascending, each once. -/
namespace Go.Proofs.YtipokdbfdingmaaGreat
set_option linter.all false
open Go.Vc Go.Proofs
theorem sLess_iff (a b : ByteArray) : sLess a b = true ↔ a.toList < b.toList := by rw [sLess, bytesLess_eq, decide_eq_true_eq]
theorem str_ext {a b : ByteArray} (h : a.toList = b.toList) : a = b := by
  have := toList_beq a b
  rw [h, beq_self_eq_true] at this
  exact of_decide_eq_true this.symm
theorem sLess_irr (a : ByteArray) : sLess a a = false := by
  rw [Bool.eq_false_iff]; exact fun h => List.lt_irrefl _ ((sLess_iff a a).1 h)
theorem sLess_trans {a b c : ByteArray} (h : sLess a b = true) (g : sLess b c = true) : sLess a c = true :=
  (sLess_iff a c).2 (List.lt_trans ((sLess_iff a b).1 h) ((sLess_iff b c).1 g))
theorem sLess_tri (a b : ByteArray) : sLess a b = true ∨ a = b ∨ sLess b a = true := by
  by_cases h : a.toList < b.toList
  · exact .inl ((sLess_iff a b).2 h)
  · by_cases g : b.toList < a.toList
    · exact .inr (.inr ((sLess_iff b a).2 g))
    · exact .inr (.inl (str_ext (List.le_antisymm g h)))
theorem sLess_asym {a b : ByteArray} (h : sLess a b = true) : sLess b a = false := by
  rw [Bool.eq_false_iff]
  intro g
  have := sLess_trans h g
  rw [sLess_irr] at this; cases this
theorem sLess_ne {a b : ByteArray} (h : sLess a b = true) : a ≠ b := fun e => by rw [e, sLess_irr] at h; cases h
def leS (a b : ByteArray) : Bool := !sLess b a
theorem leS_iff (a b : ByteArray) : leS a b = true ↔ sLess a b = true ∨ a = b := by
  unfold leS
  rcases sLess_tri a b with h | rfl | h
  · simp [h, sLess_asym h]
  · simp [sLess_irr]
  · have hne : ¬ a = b := fun e => sLess_ne h e.symm
    simp [h, sLess_asym h, hne]
theorem leS_trans (a b c : ByteArray) (h : leS a b = true) (g : leS b c = true) : leS a c = true := by
  rw [leS_iff] at *
  rcases h with h | rfl
  · rcases g with g | rfl
    · exact .inl (sLess_trans h g)
    · exact .inl h
  · exact g
theorem leS_total (a b : ByteArray) : (leS a b || leS b a) = true := by
  rw [Bool.or_eq_true, leS_iff, leS_iff]
  rcases sLess_tri a b with h | rfl | h
  · exact .inl (.inl h)
  · exact .inl (.inr rfl)
  · exact .inr (.inl h)
def hasS (l : List ByteArray) (s : ByteArray) : Bool := l.any fun x => decide (x = s)
theorem hasS_iff {l : List ByteArray} {s : ByteArray} : hasS l s = true ↔ s ∈ l := by simp [hasS]
def Asc (l : List ByteArray) : Prop := l.Pairwise fun a b => sLess a b = true
theorem Asc.nodup {l : List ByteArray} (h : Asc l) : l.Nodup := List.Pairwise.imp (fun hab => sLess_ne hab) h
theorem asc_ext : ∀ {l m : List ByteArray}, Asc l → Asc m → (∀ x, x ∈ l ↔ x ∈ m) → l = m
  | [], [], _, _, _ => rfl
  | [], b :: m, _, _, h => by have := (h b).2 (by simp); simp at this
  | a :: l, [], _, _, h => by have := (h a).1 (by simp); simp at this
  | a :: l, b :: m, h1, h2, h => by
    have k1 := List.pairwise_cons.1 h1
    have k2 := List.pairwise_cons.1 h2
    have e : a = b := by
      rcases List.mem_cons.1 ((h a).1 (by simp)) with e | ha
      · exact e
      · rcases List.mem_cons.1 ((h b).2 (by simp)) with e | hb
        · exact e.symm
        · have h3 := k2.1 a ha
          have h4 := k1.1 b hb
          rw [sLess_asym h3] at h4; cases h4
    subst e
    rw [asc_ext k1.2 k2.2 fun x => ?_]
    have hx := h x
    simp only [List.mem_cons] at hx
    constructor
    · intro hl
      rcases hx.1 (.inr hl) with e | hm
      · subst e; have := k1.1 x hl; rw [sLess_irr] at this; cases this
      · exact hm
    · intro hm
      rcases hx.2 (.inr hm) with e | hl
      · subst e; have := k2.1 x hm; rw [sLess_irr] at this; cases this
      · exact hl
def insS (s : ByteArray) : List ByteArray → List ByteArray
  | [] => [s]
  | a :: l => if sLess s a = true then s :: a :: l else if s = a then a :: l else a :: insS s l
theorem insS_mem {s x : ByteArray} : ∀ {l : List ByteArray}, x ∈ insS s l ↔ x = s ∨ x ∈ l
  | [] => by simp [insS]
  | a :: l => by
    rw [insS]
    split
    · simp
    · split
      · rename_i h1 h2; subst h2; simp
      · rw [List.mem_cons, insS_mem, List.mem_cons]
        constructor
        · rintro (h | h | h)
          · exact .inr (.inl h)
          · exact .inl h
          · exact .inr (.inr h)
        · rintro (h | h | h)
          · exact .inr (.inl h)
          · exact .inl h
          · exact .inr (.inr h)
theorem insS_asc {s : ByteArray} : ∀ {l : List ByteArray}, Asc l → Asc (insS s l)
  | [], _ => List.pairwise_singleton _ _
  | a :: l, h => by
    have k := List.pairwise_cons.1 h
    rw [insS]
    split
    · rename_i hs
      refine List.pairwise_cons.2 ⟨fun x hx => ?_, h⟩
      rcases List.mem_cons.1 hx with rfl | hx
      · exact hs
      · exact sLess_trans hs (k.1 x hx)
    · split
      · exact h
      · rename_i h1 h2
        refine List.pairwise_cons.2 ⟨fun x hx => ?_, insS_asc k.2⟩
        rcases insS_mem.1 hx with rfl | hx
        · rcases sLess_tri x a with h3 | h3 | h3
          · exact absurd h3 h1
          · exact absurd h3 h2
          · exact h3
        · exact k.1 x hx
theorem insS_same {s : ByteArray} {l : List ByteArray} (h : Asc l) (hs : s ∈ l) : insS s l = l :=
  asc_ext (insS_asc h) h fun x => by rw [insS_mem]; exact ⟨fun h => by rcases h with rfl | h; exact hs; exact h, .inr⟩
theorem insS_len {s : ByteArray} : ∀ {l : List ByteArray}, (insS s l).length ≤ l.length + 1
  | [] => by simp [insS]
  | a :: l => by
    rw [insS]; split
    · simp
    · split
      · simp
      · have := insS_len (s := s) (l := l); simp; omega
def keysS (l : List ByteArray) : List ByteArray := l.foldl (fun out s => insS s out) []
theorem keysF_asc : ∀ (l out : List ByteArray), Asc out → Asc (l.foldl (fun out s => insS s out) out)
  | [], _, h => h
  | s :: l, out, h => keysF_asc l _ (insS_asc h)
theorem keysF_mem {x : ByteArray} : ∀ (l out : List ByteArray), x ∈ l.foldl (fun out s => insS s out) out ↔ x ∈ l ∨ x ∈ out
  | [], _ => by simp
  | s :: l, out => by
    rw [List.foldl_cons, keysF_mem, insS_mem, List.mem_cons]
    constructor
    · rintro (h | h | h)
      · exact .inl (.inr h)
      · exact .inl (.inl h)
      · exact .inr h
    · rintro ((h | h) | h)
      · exact .inr (.inl h)
      · exact .inl h
      · exact .inr (.inr h)
theorem keysS_asc (l : List ByteArray) : Asc (keysS l) := keysF_asc l [] List.Pairwise.nil
theorem keysS_mem {l : List ByteArray} {x : ByteArray} : x ∈ keysS l ↔ x ∈ l := by rw [keysS, keysF_mem]; simp
theorem keysS_snoc (l : List ByteArray) (s : ByteArray) : keysS (l ++ [s]) = insS s (keysS l) := by rw [keysS, List.foldl_append]; rfl
theorem keysS_len (l : List ByteArray) : (keysS l).length ≤ l.length := by
  have : ∀ (l out : List ByteArray), (l.foldl (fun out s => insS s out) out).length ≤ l.length + out.length := by
    intro l
    induction l with
    | nil => intro out; simp
    | cons s l ih => intro out; rw [List.foldl_cons]; have := ih (insS s out); have := insS_len (s := s) (l := out); simp; omega
  exact Nat.le_trans (this l []) (by simp)
theorem sortS_pw (l : List ByteArray) : (l.mergeSort leS).Pairwise fun a b => leS a b = true := List.pairwise_mergeSort leS_trans leS_total l
theorem sortS_asc {l : List ByteArray} (h : l.Nodup) : Asc (l.mergeSort leS) := by
  have h1 := sortS_pw l
  have h2 : (l.mergeSort leS).Nodup := (List.mergeSort_perm l leS).nodup_iff.2 h
  refine List.Pairwise.imp₂ (fun a b h3 h4 => ?_) h1 h2
  rcases (leS_iff a b).1 h3 with h5 | h5
  · exact h5
  · exact absurd h5 h4
theorem sortS_keys {l : List ByteArray} (h : l.Nodup) : l.mergeSort leS = keysS l :=
  asc_ext (sortS_asc h) (keysS_asc l) fun x => by rw [(List.mergeSort_perm l leS).mem_iff, keysS_mem]
end Go.Proofs.YtipokdbfdingmaaGreat

/- Books of grounds, plainly: units, what stands in what. -/
namespace Go.Proofs.YtipokdbfdingmaaGreat
set_option linter.all false
open Go.Vc Go.Proofs
structure Un where
  up : Bool
  keys : List ByteArray
  inn : List Nat
structure Gb where
  units : List Un
  ser : List (ByteArray × Int)
def Un.none : Un := ⟨false, [], []⟩
def innOf (us : List Un) (x : Nat) : List Nat := (us[x]?.elim [] (·.inn))
inductive Rc (us : List Un) (S : Nat → Prop) : Nat → Prop
  | base {x : Nat} : S x → Rc us S x
  | step {x y : Nat} : Rc us S x → y ∈ innOf us x → Rc us S y
open Classical in
noncomputable def rcB (us : List Un) (S : Nat → Prop) (x : Nat) : Bool := decide (Rc us S x)
theorem rcB_iff {us : List Un} {S : Nat → Prop} {x : Nat} : rcB us S x = true ↔ Rc us S x := by unfold rcB; exact @decide_eq_true_iff _ (Classical.propDecidable _)
noncomputable def aboveOf (us : List Un) (S : Nat → Prop) : List Bool := (List.range us.length).map (rcB us S)
def numb (l : List Bool) : List Nat := (List.range l.length).filter fun i => l.getD i false
@[simp] theorem aboveOf_len (us : List Un) (S : Nat → Prop) : (aboveOf us S).length = us.length := by simp [aboveOf]
theorem aboveOf_at {us : List Un} {S : Nat → Prop} {i : Nat} (h : i < us.length) : (aboveOf us S)[i]'(by simpa using h) = rcB us S i := by simp [aboveOf]
theorem Rc.mono {us : List Un} {S T : Nat → Prop} (h : ∀ x, S x → T x) {x : Nat} (hx : Rc us S x) : Rc us T x := by
  induction hx with
  | base h1 => exact .base (h _ h1)
  | step _ h2 ih => exact .step ih h2
theorem Rc.trans {us : List Un} {S : Nat → Prop} {x y : Nat} (hx : Rc us S x) (hy : Rc us (fun z => z = x) y) : Rc us S y := by
  induction hy with
  | base h => subst h; exact hx
  | step _ h ih => exact .step ih h
theorem Rc.split {us : List Un} {S : Nat → Prop} {y : Nat} (hy : Rc us S y) : ∃ x, S x ∧ Rc us (fun z => z = x) y := by
  induction hy with
  | base h => exact ⟨_, h, .base rfl⟩
  | step _ h ih => obtain ⟨x, h1, h2⟩ := ih; exact ⟨x, h1, .step h2 h⟩
theorem Rc.lt {us : List Un} {S : Nat → Prop} (hS : ∀ x, S x → x < us.length) (hi : ∀ x, ∀ y ∈ innOf us x, y < us.length) {x : Nat} (hx : Rc us S x) : x < us.length := by
  induction hx with
  | base h => exact hS _ h
  | step _ h _ => exact hi _ _ h
structure Wk (us : List Un) (S : Nat → Prop) (M : List Bool) (W : List Nat) : Prop where
  len : M.length = us.length
  sub : ∀ x, M.getD x false = true → Rc us S x
  todo : ∀ x ∈ W, Rc us S x
  start : ∀ x, S x → M.getD x false = true ∨ x ∈ W
  next : ∀ x, M.getD x false = true → ∀ y ∈ innOf us x, M.getD y false = true ∨ y ∈ W
theorem Wk.begin {us : List Un} {l : List Nat} : Wk us (· ∈ l) (List.replicate us.length false) l := by
  have h0 : ∀ x, ¬ (List.replicate us.length false).getD x false = true := fun x => by
    rw [List.getD_eq_getElem?_getD, List.getElem?_replicate]; split <;> simp
  exact ⟨by simp, fun x h => absurd h (h0 x), fun x h => .base h, fun x h => .inr h, fun x h => absurd h (h0 x)⟩
theorem getD_set_self {M : List Bool} {x : Nat} (h : x < M.length) (v : Bool) : (M.set x v).getD x false = v := by
  rw [List.getD_eq_getElem?_getD, List.getElem?_set_self h]; rfl
theorem getD_set_ne {M : List Bool} {x y : Nat} (h : x ≠ y) (v : Bool) : (M.set x v).getD y false = M.getD y false := by
  rw [List.getD_eq_getElem?_getD, List.getElem?_set_ne h, ← List.getD_eq_getElem?_getD]
theorem Wk.pass {us : List Un} {S : Nat → Prop} {M : List Bool} {W : List Nat} {x : Nat} (h : Wk us S M (W ++ [x])) (hx : M.getD x false = true) : Wk us S M W := by
  have hd : ∀ y, (M.getD y false = true ∨ y ∈ W ++ [x]) → M.getD y false = true ∨ y ∈ W := by
    rintro y (h1 | h1)
    · exact .inl h1
    · rcases List.mem_append.1 h1 with h1 | h1
      · exact .inr h1
      · rw [List.mem_singleton.1 h1]; exact .inl hx
  exact ⟨h.len, h.sub, fun y hy => h.todo y (by simp [hy]), fun y hy => hd y (h.start y hy), fun y hy z hz => hd z (h.next y hy z hz)⟩
theorem Wk.take {us : List Un} {S : Nat → Prop} {M : List Bool} {W : List Nat} {x : Nat} (h : Wk us S M (W ++ [x])) (hx : x < us.length) : Wk us S (M.set x true) (W ++ innOf us x) := by
  have hl := h.len
  have hr : Rc us S x := h.todo x (by simp)
  have hm : ∀ y, (M.set x true).getD y false = true ↔ M.getD y false = true ∨ y = x := fun y => by
    by_cases e : x = y
    · subst e; rw [getD_set_self (by omega)]; simp
    · rw [getD_set_ne e]; exact ⟨.inl, fun h => h.elim id fun h => absurd h.symm e⟩
  refine ⟨by rw [List.length_set, hl], fun y hy => ?_, fun y hy => ?_, fun y hy => ?_, fun y hy z hz => ?_⟩
  · rcases (hm y).1 hy with h1 | rfl
    · exact h.sub y h1
    · exact hr
  · rcases List.mem_append.1 hy with h1 | h1
    · exact h.todo y (by simp [h1])
    · exact .step hr h1
  · rw [hm, List.mem_append]
    rcases h.start y hy with h1 | h1
    · exact .inl (.inl h1)
    · rcases List.mem_append.1 h1 with h1 | h1
      · exact .inr (.inl h1)
      · exact .inl (.inr (List.mem_singleton.1 h1))
  · rw [hm, List.mem_append]
    rcases (hm y).1 hy with h1 | rfl
    · rcases h.next y h1 z hz with h2 | h2
      · exact .inl (.inl h2)
      · rcases List.mem_append.1 h2 with h2 | h2
        · exact .inr (.inl h2)
        · exact .inl (.inr (List.mem_singleton.1 h2))
    · exact .inr (.inr hz)
theorem marks_eq {us : List Un} {S : Nat → Prop} {M : List Bool} (hl : M.length = us.length) (h1 : ∀ x, M.getD x false = true → Rc us S x) (h2 : ∀ x, S x → M.getD x false = true)
    (h3 : ∀ x, M.getD x false = true → ∀ y ∈ innOf us x, M.getD y false = true) : M = aboveOf us S := by
  have hr : ∀ x, Rc us S x → M.getD x false = true := fun x hx => by
    induction hx with
    | base h => exact h2 _ h
    | step _ h ih => exact h3 _ ih _ h
  refine List.ext_getElem (by rw [hl, aboveOf_len]) fun i hi1 hi2 => ?_
  rw [aboveOf_at (by omega)]
  have e : M[i] = M.getD i false := by rw [List.getD_eq_getElem?_getD, List.getElem?_eq_getElem hi1]; rfl
  rw [e, Bool.eq_iff_iff, rcB_iff]
  exact ⟨h1 i, hr i⟩
theorem Wk.done {us : List Un} {S : Nat → Prop} {M : List Bool} (h : Wk us S M []) : M = aboveOf us S :=
  marks_eq h.len h.sub (fun x hx => (h.start x hx).elim id fun h => by simp at h) fun x hx y hy => (h.next x hx y hy).elim id fun h => by simp at h
def leftW (us : List Un) (M : List Bool) : Nat := ((List.range us.length).map fun i => if M.getD i false = true then 0 else (innOf us i).length + 1).sum
theorem sum_map_le {f g : Nat → Nat} (l : List Nat) (h : ∀ i ∈ l, f i ≤ g i) : (l.map f).sum ≤ (l.map g).sum := by
  induction l with
  | nil => simp
  | cons a l ih => have := h a (by simp); have := ih fun i hi => h i (by simp [hi]); simp; omega
theorem sum_drop {f g : Nat → Nat} {l : List Nat} (hn : l.Nodup) {x : Nat} (hx : x ∈ l) (h : ∀ i ∈ l, i ≠ x → f i = g i) : (l.map f).sum + g x = (l.map g).sum + f x := by
  induction l with
  | nil => simp at hx
  | cons a l ih =>
    rw [List.nodup_cons] at hn
    simp only [List.map_cons, List.sum_cons]
    by_cases e : a = x
    · subst e
      have : l.map f = l.map g := List.map_congr_left fun i hi => h i (by simp [hi]) fun e => hn.1 (e ▸ hi)
      rw [this]; omega
    · have h1 := ih hn.2 (by rcases List.mem_cons.1 hx with h | h; exact absurd h.symm e; exact h) fun i hi => h i (by simp [hi])
      have h2 := h a (by simp) e
      omega
theorem leftW_take {us : List Un} {M : List Bool} {x : Nat} (hl : M.length = us.length) (hx : x < us.length) (hm : M.getD x false = false) : leftW us (M.set x true) + (innOf us x).length + 1 = leftW us M := by
  have h := sum_drop (f := fun i => if (M.set x true).getD i false = true then 0 else (innOf us i).length + 1) (g := fun i => if M.getD i false = true then 0 else (innOf us i).length + 1) (List.nodup_range (n := us.length)) (List.mem_range.2 hx)
    fun i _ hne => by rw [getD_set_ne (Ne.symm hne)]
  simp only [getD_set_self (show x < M.length by omega), hm, if_true] at h
  unfold leftW
  simp at h ⊢
  omega
end Go.Proofs.YtipokdbfdingmaaGreat

/- Books of grounds, plainly: deeds. -/
namespace Go.Proofs.YtipokdbfdingmaaGreat
set_option linter.all false
open Go.Vc Go.Proofs
def isKeyB (s : ByteArray) : Bool := decide (1 ≤ s.size) && decide (s.size ≤ 60)
def hasB (g : Gb) (u : Int) : Bool := decide (0 ≤ u) && decide (u < g.units.length)
def unOf (g : Gb) (u : Int) : Un := (g.units[u.toNat]?).getD Un.none
def keysE (l : List ByteArray) : Int := if l.all isKeyB = false then 6 else if 30 < (keysS l).length then 9 else 0
def unitOf (g : Gb) (l : List ByteArray) : Gb × Int × Int :=
  if keysE l ≠ 0 then (g, 0, keysE l) else if 200 ≤ g.units.length then (g, 0, 9) else ({ g with units := g.units ++ [⟨true, keysS l, []⟩] }, g.units.length, 0)
def setU (g : Gb) (u : Int) (x : Un) : Gb := { g with units := g.units.set u.toNat x }
def relyOf (g : Gb) (u : Int) (k : ByteArray) : Gb × Int :=
  if hasB g u = false then (g, 1) else if isKeyB k = false then (g, 6) else if (unOf g u).up = false then (g, 8)
  else if hasS (unOf g u).keys k = true then (g, 0) else if 30 ≤ (unOf g u).keys.length then (g, 9)
  else (setU g u { unOf g u with keys := insS k (unOf g u).keys }, 0)
open Classical in
noncomputable def intoOf (g : Gb) (u o : Int) : Gb × Int :=
  if hasB g u = false ∨ hasB g o = false then (g, 1) else if (unOf g u).up = false ∨ (unOf g o).up = false then (g, 8)
  else if rcB g.units (fun x => x = o.toNat) u.toNat = true then (g, 10)
  else if o.toNat ∈ (unOf g u).inn then (g, 0) else (setU g u { unOf g u with inn := (unOf g u).inn ++ [o.toNat] }, 0)
noncomputable def fallU (us : List Un) (S : Nat → Prop) : List Un :=
  us.mapIdx fun i u => if rcB us S i = true then Un.none else { u with inn := u.inn.filter fun y => !rcB us S y }
noncomputable def fallOf (g : Gb) (S : Nat → Prop) : Gb × List Nat := ({ g with units := fallU g.units S }, numb (aboveOf g.units S))
def relyB (us : List Un) (k : ByteArray) (i : Nat) : Prop := ∃ u, us[i]? = some u ∧ u.up = true ∧ k ∈ u.keys
def serOf (m : List (ByteArray × Int)) (k : ByteArray) : Int := (m.find? fun p => decide (p.1 = k)).elim 0 (·.2)
def bump (m : List (ByteArray × Int)) (k : ByteArray) : List (ByteArray × Int) :=
  if m.any (fun p => decide (p.1 = k)) = true then m.map fun p => if p.1 = k then (k, p.2 + 1) else p else m ++ [(k, 1)]
noncomputable def moveOf (g : Gb) (k : ByteArray) : Gb × List Nat × Int :=
  if isKeyB k = false then (g, [], 6) else ((fallOf { g with ser := bump g.ser k } (relyB g.units k)).1, (fallOf g (relyB g.units k)).2, 0)
def renewOf (g : Gb) (u : Int) (l : List ByteArray) : Gb × Int :=
  if hasB g u = false then (g, 1) else if keysE l = 6 then (g, 6) else if (unOf g u).up = true then (g, 8) else if keysE l ≠ 0 then (g, keysE l)
  else (setU g u { unOf g u with up := true, keys := keysS l }, 0)
noncomputable def dropOf (g : Gb) (u : Int) : Gb × List Nat × Int :=
  if hasB g u = false then (g, [], 1) else if (unOf g u).up = false then (g, [], 8) else ((fallOf g fun x => x = u.toNat).1, (fallOf g fun x => x = u.toNat).2, 0)
noncomputable def whoOf (g : Gb) (k : ByteArray) : List Nat := numb (aboveOf g.units (relyB g.units k))
noncomputable def allKOf (g : Gb) (u : Nat) : List ByteArray :=
  keysS (((List.range g.units.length).filter fun i : Nat => (unOf g i).up && rcB g.units (fun x => x = i) u).flatMap fun i : Nat => (unOf g i).keys)
structure Bk (n : Nat) (g : Gb) : Prop where
  len : g.units.length ≤ 200
  asc : ∀ u ∈ g.units, Asc u.keys ∧ u.keys.length ≤ 30
  ins : ∀ u ∈ g.units, u.inn.Nodup ∧ ∀ y ∈ u.inn, y < g.units.length
  down : ∀ u ∈ g.units, u.up = false → u.keys = [] ∧ u.inn = []
  ser : (g.ser.map (·.1)).Nodup
  moved : g.ser.length ≤ n ∧ ∀ p ∈ g.ser, 0 ≤ p.2 ∧ p.2 ≤ n
theorem Bk.up {n : Nat} {g : Gb} (b : Bk n g) : Bk (n + 1) g := ⟨b.len, b.asc, b.ins, b.down, b.ser, by have := b.moved; exact ⟨by omega, fun p hp => by have := this.2 p hp; omega⟩⟩
theorem unOf_mem {g : Gb} {u : Int} (h : hasB g u = true) : ∃ i, ∃ hi : i < g.units.length, u = i ∧ unOf g u = g.units[i] ∧ unOf g u ∈ g.units := by
  simp only [hasB, Bool.and_eq_true, decide_eq_true_eq] at h
  have hi : u.toNat < g.units.length := by omega
  have e : unOf g u = g.units[u.toNat] := by rw [unOf, List.getElem?_eq_getElem hi]; rfl
  exact ⟨u.toNat, hi, by omega, e, by rw [e]; exact List.getElem_mem hi⟩
theorem keysE_ok {l : List ByteArray} (h : keysE l = 0) : (keysS l).length ≤ 30 ∧ l.all isKeyB = true := by
  unfold keysE at h
  split at h
  · omega
  · split at h
    · omega
    · rename_i h1 h2
      exact ⟨by omega, by simpa using h1⟩
theorem b_unit {n : Nat} {g : Gb} (b : Bk n g) (l : List ByteArray) : Bk n (unitOf g l).1 := by
  unfold unitOf
  split
  · exact b
  · split
    · exact b
    · rename_i h1 h2
      have hk := keysE_ok (by simpa using h1)
      have hm : ∀ u ∈ g.units ++ [(⟨true, keysS l, []⟩ : Un)], u ∈ g.units ∨ u = ⟨true, keysS l, []⟩ := fun u hu => by simpa using hu
      refine ⟨by simp; omega, fun u hu => ?_, fun u hu => ?_, fun u hu hd => ?_, b.ser, b.moved⟩
      · rcases hm u hu with h | rfl
        · exact b.asc u h
        · exact ⟨keysS_asc l, hk.1⟩
      · rcases hm u hu with h | rfl
        · refine ⟨(b.ins u h).1, fun y hy => ?_⟩
          have := (b.ins u h).2 y hy
          simp; omega
        · exact ⟨List.nodup_nil, fun y hy => by simp at hy⟩
      · rcases hm u hu with h | rfl
        · exact b.down u h hd
        · cases hd
theorem b_set {n : Nat} {g : Gb} (b : Bk n g) (u : Int) (x : Un) (h1 : Asc x.keys ∧ x.keys.length ≤ 30) (h2 : x.inn.Nodup ∧ ∀ y ∈ x.inn, y < g.units.length) (h3 : x.up = false → x.keys = [] ∧ x.inn = []) : Bk n (setU g u x) := by
  have hm : ∀ v ∈ (setU g u x).units, v ∈ g.units ∨ v = x := fun v hv => List.mem_or_eq_of_mem_set hv
  have hl : (setU g u x).units.length = g.units.length := by simp [setU]
  refine ⟨by rw [hl]; exact b.len, fun v hv => ?_, fun v hv => ?_, fun v hv hd => ?_, b.ser, b.moved⟩
  · rcases hm v hv with h | rfl
    · exact b.asc v h
    · exact h1
  · rw [hl]
    rcases hm v hv with h | rfl
    · exact b.ins v h
    · exact h2
  · rcases hm v hv with h | rfl
    · exact b.down v h hd
    · exact h3 hd
theorem b_rely {n : Nat} {g : Gb} (b : Bk n g) (u : Int) (k : ByteArray) : Bk n (relyOf g u k).1 := by
  unfold relyOf
  repeat' split
  all_goals try exact b
  rename_i h1 h2 h3 h4 h5
  obtain ⟨i, hi, rfl, e, hm⟩ := unOf_mem (g := g) (u := u) (by simpa using h1)
  have ha := b.asc _ hm
  have hb := b.ins _ hm
  refine b_set b _ _ ⟨insS_asc ha.1, ?_⟩ hb fun hd => by simp only at hd; rw [hd] at h3; exact absurd rfl h3
  have := insS_len (s := k) (l := (unOf g i).keys)
  simp only; omega
theorem b_into {n : Nat} {g : Gb} (b : Bk n g) (u o : Int) : Bk n (intoOf g u o).1 := by
  unfold intoOf
  repeat' split
  all_goals try exact b
  rename_i h1 h2 h3 h4
  have hu : hasB g u = true := by simpa using fun h => h1 (.inl h)
  have ho : hasB g o = true := by simpa using fun h => h1 (.inr h)
  obtain ⟨i, hi, rfl, e, hm⟩ := unOf_mem hu
  obtain ⟨j, hj, rfl, e2, hm2⟩ := unOf_mem ho
  have ha := b.asc _ hm
  have hb := b.ins _ hm
  refine b_set b _ _ ha ⟨List.nodup_append.2 ⟨hb.1, by simp, fun x hx y hy e3 => ?_⟩, fun y hy => ?_⟩ fun hd => ?_
  · rw [List.mem_singleton.1 hy] at e3; subst e3; exact h4 hx
  · rcases List.mem_append.1 hy with h | h
    · exact hb.2 y h
    · rw [List.mem_singleton.1 h]; simpa using hj
  · simp only at hd; exact absurd (.inl hd) h2
theorem fallU_mem {us : List Un} {S : Nat → Prop} {u : Un} (h : u ∈ fallU us S) : u = Un.none ∨ ∃ v ∈ us, u = { v with inn := v.inn.filter fun y => !rcB us S y } := by
  obtain ⟨i, hi, rfl⟩ := List.mem_iff_getElem.1 h
  have hi2 : i < us.length := by simpa [fallU] using hi
  have e : (fallU us S)[i] = if rcB us S i = true then Un.none else { us[i] with inn := us[i].inn.filter fun y => !rcB us S y } := by simp [fallU]
  rw [e]
  split
  · exact .inl rfl
  · exact .inr ⟨us[i], List.getElem_mem hi2, rfl⟩
theorem b_fall {n : Nat} {g : Gb} (b : Bk n g) (S : Nat → Prop) : Bk n (fallOf g S).1 := by
  have hl : (fallOf g S).1.units.length = g.units.length := by simp [fallOf, fallU]
  refine ⟨by rw [hl]; exact b.len, fun u hu => ?_, fun u hu => ?_, fun u hu hd => ?_, b.ser, b.moved⟩
  · rcases fallU_mem hu with rfl | ⟨v, hv, rfl⟩
    · exact ⟨List.Pairwise.nil, by simp [Un.none]⟩
    · exact b.asc v hv
  · rw [hl]
    rcases fallU_mem hu with rfl | ⟨v, hv, rfl⟩
    · exact ⟨by simp [Un.none], by simp [Un.none]⟩
    · exact ⟨(b.ins v hv).1.filter _, fun y hy => (b.ins v hv).2 y (List.mem_filter.1 hy).1⟩
  · rcases fallU_mem hu with rfl | ⟨v, hv, rfl⟩
    · exact ⟨rfl, rfl⟩
    · have := b.down v hv hd
      exact ⟨this.1, by simp [this.2]⟩
theorem bump_keys (m : List (ByteArray × Int)) (k : ByteArray) : (bump m k).map (·.1) = if m.any (fun p => decide (p.1 = k)) = true then m.map (·.1) else m.map (·.1) ++ [k] := by
  unfold bump
  split
  · rw [List.map_map]
    exact List.map_congr_left fun p _ => by simp only [Function.comp_def]; split <;> simp_all
  · simp
theorem b_bump {n : Nat} {g : Gb} (b : Bk n g) (k : ByteArray) : Bk (n + 1) { g with ser := bump g.ser k } := by
  refine ⟨b.len, b.asc, b.ins, b.down, ?_, ?_⟩
  · show ((bump g.ser k).map (·.1)).Nodup
    rw [bump_keys]
    split
    · exact b.ser
    · rename_i h
      refine List.nodup_append.2 ⟨b.ser, by simp, fun x hx y hy e => ?_⟩
      obtain ⟨p, hp, rfl⟩ := List.mem_map.1 hx
      rw [List.mem_singleton.1 hy] at e
      exact h (List.any_eq_true.2 ⟨p, hp, by simpa using e⟩)
  · have h1 := b.moved
    have hl : (bump g.ser k).length ≤ g.ser.length + 1 := by unfold bump; split <;> simp
    refine ⟨(by show (bump g.ser k).length ≤ n + 1; omega), fun p hp => ?_⟩
    simp only [bump] at hp
    split at hp
    · obtain ⟨q, hq, rfl⟩ := List.mem_map.1 hp
      have := h1.2 q hq
      split
      · show 0 ≤ q.2 + 1 ∧ q.2 + 1 ≤ ((n + 1 : Nat) : Int); omega
      · omega
    · rcases List.mem_append.1 hp with hp | hp
      · have := h1.2 p hp; omega
      · rw [List.mem_singleton.1 hp]; simp only; omega
theorem b_move {n : Nat} {g : Gb} (b : Bk n g) (k : ByteArray) : Bk (n + 1) (moveOf g k).1 := by
  unfold moveOf
  split
  · exact b.up
  · exact b_fall (b_bump b k) _
theorem b_renew {n : Nat} {g : Gb} (b : Bk n g) (u : Int) (l : List ByteArray) : Bk n (renewOf g u l).1 := by
  unfold renewOf
  repeat' split
  all_goals try exact b
  rename_i h1 h2 h3 h4
  obtain ⟨i, hi, rfl, e, hm⟩ := unOf_mem (g := g) (u := u) (by simpa using h1)
  have hb := b.ins _ hm
  exact b_set b _ _ ⟨keysS_asc l, (keysE_ok (by simpa using h4)).1⟩ hb fun hd => by cases hd
theorem b_drop {n : Nat} {g : Gb} (b : Bk n g) (u : Int) : Bk n (dropOf g u).1 := by
  unfold dropOf
  repeat' split
  all_goals first | exact b | exact b_fall b _
def bornB : Gb := ⟨[], []⟩
theorem b_born : Bk 0 bornB := ⟨by simp [bornB], by simp [bornB], by simp [bornB], by simp [bornB], by simp [bornB], by simp [bornB]⟩
end Go.Proofs.YtipokdbfdingmaaGreat

/- Books of grounds, plainly: what falls, what stays. -/
namespace Go.Proofs.YtipokdbfdingmaaGreat
set_option linter.all false
open Go.Vc Go.Proofs
theorem fallU_at {us : List Un} {S : Nat → Prop} {i : Nat} : (fallU us S)[i]? = (us[i]?).map fun u => if rcB us S i = true then Un.none else { u with inn := u.inn.filter fun y => !rcB us S y } := by
  rw [fallU, List.getElem?_mapIdx]
abbrev avInt (n : Int) : AV := .val (.int .i64 n)
abbrev avBool (b : Bool) : AV := .val (.bool b)
abbrev avStr (s : ByteArray) : AV := .val (.string s)
abbrev avTwo (a : AV) (e : Int) : AV := .tup (.cons a (.cons (avInt e) .nil))
abbrev two (x : Int × Int) : AV := avTwo (avInt x.1) x.2
theorem freeze_sq (l : List D) : (sq l).freeze = sq (l.map T.freeze) := by
  induction l with
  | nil => rfl
  | cons a l ih => simp [sq, T.freeze, ih]
theorem own_sq {l : List D} (h : ∀ x ∈ l, x.allOwn = true) : (sq l).allOwn = true := by
  induction l with
  | nil => rfl
  | cons a l ih => simp [sq, T.allOwn, h a (by simp), ih fun x hx => h x (by simp [hx])]
@[simp] theorem freeze_ints (l : List Int) : (dInts l).freeze = dInts l := by
  rw [dInts, freeze_sq, List.map_map]; rfl
@[simp] theorem dNil_ints : dInts [] = .nil := rfl
theorem ints_mid (l : List Int) (lo n : Nat) : (dInts l).mid lo n = dInts ((l.drop lo).take n) := by simp only [dInts, sq_mid, ← List.map_drop, ← List.map_take]
@[simp] theorem own_ints (l : List Int) : (dInts l).allOwn = true := own_sq fun x hx => by obtain ⟨n, _, rfl⟩ := List.mem_map.1 hx; rfl
@[simp] theorem strs_len (l : List ByteArray) : (strs l).len = l.length := by simp [strs]
@[simp] theorem strs_free (l : List ByteArray) : (strs l).free = true := sq_free fun x hx => by obtain ⟨n, _, rfl⟩ := List.mem_map.1 hx; rfl
theorem strs_nth {l : List ByteArray} {i : Nat} (h : i < l.length) : (strs l).nth i = .val (.string l[i]) := by rw [strs, sq_nth_lt (by simpa using h)]; simp
@[simp] theorem strs_nil : strs [] = .nil := rfl
@[simp] theorem strs_app (l m : List ByteArray) : (strs l).app (strs m) = strs (l ++ m) := by simp [strs, sq_app]
@[simp] theorem strs_app1 (l : List ByteArray) (n : ByteArray) : (strs l).app (.cons (.val (.string n)) .nil) = strs (l ++ [n]) := strs_app l [n]
@[simp] theorem strs_mid_all (l : List ByteArray) : (strs l).mid 0 l.length = strs l := sq_mid_all _ _ (by simp)
@[simp] theorem strs_mid1 (l : List ByteArray) (n : ByteArray) : (strs (l ++ [n])).mid 0 (l.length + 1) = strs (l ++ [n]) := sq_mid_all _ _ (by simp)
theorem strs_mid (l : List ByteArray) (lo n : Nat) : (strs l).mid lo n = strs ((l.drop lo).take n) := by simp only [strs, sq_mid, ← List.map_drop, ← List.map_take]
@[simp] theorem freeze_strs (l : List ByteArray) : (strs l).freeze = strs l := by
  rw [strs, freeze_sq, List.map_map]; rfl
@[simp] theorem own_strs (l : List ByteArray) : (strs l).allOwn = true := own_sq fun x hx => by obtain ⟨n, _, rfl⟩ := List.mem_map.1 hx; rfl
def dBools (l : List Bool) : D := sq (l.map fun b => .val (.bool b))
@[simp] theorem dBools_len (l : List Bool) : (dBools l).len = l.length := by simp [dBools]
@[simp] theorem dBools_free (l : List Bool) : (dBools l).free = true := sq_free fun x hx => by obtain ⟨n, _, rfl⟩ := List.mem_map.1 hx; simp
theorem dBools_nth {l : List Bool} {i : Nat} (h : i < l.length) : (dBools l).nth i = .val (.bool l[i]) := by
  rw [dBools, sq_nth_lt (by simpa using h)]; simp
theorem dBools_set (l : List Bool) (i : Nat) (b : Bool) : (dBools l).setN i (.val (.bool b)) = dBools (l.set i b) := by simp only [dBools, sq_setN, List.map_set]
theorem zeros_bools (n : Nat) : (sq (List.replicate n (.val (.bool false))) : D) = dBools (List.replicate n false) := by simp [dBools]
@[simp] theorem dBools_mid_all (l : List Bool) : (dBools l).mid 0 l.length = dBools l := sq_mid_all _ _ (by simp)
@[simp] theorem freeze_bools (l : List Bool) : (dBools l).freeze = dBools l := by
  rw [dBools, freeze_sq, List.map_map]; rfl
@[simp] theorem own_bools (l : List Bool) : (dBools l).allOwn = true := own_sq fun x hx => by obtain ⟨n, _, rfl⟩ := List.mem_map.1 hx; rfl
def nats (l : List Nat) : List Int := l.map fun n : Nat => (n : Int)
@[simp] theorem nats_len (l : List Nat) : (nats l).length = l.length := by simp [nats]
@[simp] theorem nats_nil : nats [] = [] := rfl
theorem nats_at {l : List Nat} {i : Nat} (h : i < (nats l).length) : (nats l)[i] = ((l[i]'(by simpa using h) : Nat) : Int) := by simp [nats]
theorem nats_app (l m : List Nat) : nats (l ++ m) = nats l ++ nats m := by simp [nats]
@[simp] theorem nats_snoc (l : List Nat) (x : Nat) : nats (l ++ [x]) = nats l ++ [(x : Int)] := by simp [nats]
@[simp] theorem nats_mid (l : List Nat) : (dInts (nats l)).mid 0 l.length = dInts (nats l) := by have := dInts_mid (nats l); rwa [nats_len] at this
@[simp] theorem nats_mid1 (l : List Nat) (n : Int) : (dInts (nats l ++ [n])).mid 0 (l.length + 1) = dInts (nats l ++ [n]) := by have := dInts_mid1 (nats l) n; rwa [nats_len] at this
theorem mem_nats {l : List Nat} {x : Nat} : (x : Int) ∈ nats l ↔ x ∈ l := by
  rw [nats, List.mem_map]
  constructor
  · rintro ⟨y, hy, e⟩
    have : y = x := by omega
    exact this ▸ hy
  · exact fun h => ⟨x, h, rfl⟩
def dUn (o : Bool) (u : Un) : D := .agg (.cons (.val (.bool u.up)) (.cons (.sl o () 1 (strs u.keys)) (.cons (.sl o () 1 (dInts (nats u.inn))) .nil)))
def dUns (o : Bool) (l : List Un) : D := sq (l.map (dUn o))
@[simp] theorem dUns_len (o : Bool) (l : List Un) : (dUns o l).len = l.length := by simp [dUns]
@[simp] theorem dUns_free (l : List Un) : (dUns false l).free = true := sq_free fun x hx => by obtain ⟨n, _, rfl⟩ := List.mem_map.1 hx; simp [dUn]
theorem dUns_nth {o : Bool} {l : List Un} {i : Nat} (h : i < l.length) : (dUns o l).nth i = .agg (.cons (.val (.bool l[i].up)) (.cons (.sl o () 1 (strs l[i].keys)) (.cons (.sl o () 1 (dInts (nats l[i].inn))) .nil))) := by
  rw [dUns, sq_nth_lt (by simpa using h)]; simp; rfl
theorem dUns_set (o : Bool) (l : List Un) (i : Nat) (u : Bool) (k : List ByteArray) (n : List Nat) : (dUns o l).setN i (.agg (.cons (.val (.bool u)) (.cons (.sl o () 1 (strs k)) (.cons (.sl o () 1 (dInts (nats n))) .nil)))) = dUns o (l.set i ⟨u, k, n⟩) := by
  simp only [dUns, sq_setN, List.map_set]; rfl
theorem dUns_same {o : Bool} {l : List Un} {i : Nat} {u : Bool} (h : i < l.length) (hu : l[i].up = u) : (dUns o l).setN i (.agg (.cons (.val (.bool u)) (.cons (.sl o () 1 (strs l[i].keys)) (.cons (.sl o () 1 (dInts (nats l[i].inn))) .nil)))) = dUns o l := by
  subst hu
  rw [dUns_set]
  exact congrArg _ (List.set_getElem_self h)
theorem dUns_push (o : Bool) (l : List Un) (u : Bool) (k : List ByteArray) (n : List Nat) : (dUns o l).app (.cons (.agg (.cons (.val (.bool u)) (.cons (.sl o () 1 (strs k)) (.cons (.sl o () 1 (dInts (nats n))) .nil)))) .nil) = dUns o (l ++ [⟨u, k, n⟩]) := by
  simp only [dUns, List.map_append, ← sq_app]; rfl
@[simp] theorem dUns_mid_all (o : Bool) (l : List Un) : (dUns o l).mid 0 l.length = dUns o l := sq_mid_all _ _ (by simp)
theorem dUns_mid1 (o : Bool) (l : List Un) (x : Un) : (dUns o (l ++ [x])).mid 0 (l.length + 1) = dUns o (l ++ [x]) := sq_mid_all _ _ (by simp)
theorem freeze_uns (o : Bool) (l : List Un) : (dUns o l).freeze = dUns false l := by
  rw [dUns, freeze_sq, dUns, List.map_map]
  congr 1
  exact List.map_congr_left fun r _ => by simp [dUn, T.freeze]
@[simp] theorem dNil_uns (o : Bool) : dUns o [] = .nil := rfl
theorem own_uns (l : List Un) : (dUns true l).allOwn = true := own_sq fun x hx => by obtain ⟨c, _, rfl⟩ := List.mem_map.1 hx; simp [dUn, T.allOwn]
theorem setN_setN {α : Type} {s : T α} {k : Nat} {x y : T α} : (s.setN k x).setN k y = s.setN k y := by
  induction s generalizing k with
  | cons a t _ iht =>
    cases k with
    | zero => rfl
    | succ k => simp only [T.setN]; rw [iht]
  | _ => rfl
def dSer (m : List (ByteArray × Int)) : D := sq (m.map fun p => .agg (.cons (.val (.string p.1)) (.cons (.val (.int .i64 p.2)) .nil)))
@[simp] theorem dSer_nil : dSer [] = .nil := rfl
theorem dSer_cons (p : ByteArray × Int) (m : List (ByteArray × Int)) : dSer (p :: m) = .cons (.agg (.cons (.val (.string p.1)) (.cons (.val (.int .i64 p.2)) .nil))) (dSer m) := rfl
@[simp] theorem dSer_free (m : List (ByteArray × Int)) : (dSer m).free = true := sq_free fun x hx => by obtain ⟨n, _, rfl⟩ := List.mem_map.1 hx; rfl
@[simp] theorem dSer_keys (m : List (ByteArray × Int)) : mkeysOk .string (dSer m) = True := by
  refine eq_true ?_
  induction m with
  | nil => trivial
  | cons e l ih => rw [dSer_cons]; exact ⟨trivial, ih⟩
theorem dSer_find (m : List (ByteArray × Int)) (k : ByteArray) : mfind (.string k) (dSer m) = (m.find? fun p => decide (p.1 = k)).map fun p => .val (.int .i64 p.2) := by
  induction m with
  | nil => rfl
  | cons e l ih =>
    rw [dSer_cons]
    unfold mfind
    by_cases h : e.1 = k
    · rw [if_pos (by rw [h])]; simp [h]
    · rw [if_neg (by simpa using h), ih]; simp [h]
theorem dSer_put {m : List (ByteArray × Int)} (hm : (m.map (·.1)).Nodup) (k : ByteArray) : mput (.string k) (.val (.int .i64 (serOf m k + 1))) (dSer m) = dSer (bump m k) := by
  have key : ∀ {m : List (ByteArray × Int)} (v : Int), (m.map (·.1)).Nodup → mput (.string k) (.val (.int .i64 v)) (dSer m) = dSer (if m.any (fun p => decide (p.1 = k)) = true then m.map fun p => if p.1 = k then (k, v) else p else m ++ [(k, v)]) := by
    intro m v
    induction m with
    | nil => intro _; simp [dSer_cons]; unfold mput; rfl
    | cons e l ih =>
      intro hn
      rw [List.map_cons, List.nodup_cons] at hn
      rw [dSer_cons]
      unfold mput
      by_cases h : e.1 = k
      · rw [if_pos (by rw [h])]
        have hno : ∀ p ∈ l, ¬ p.1 = k := fun p hp e2 => hn.1 (by rw [h, ← e2]; exact List.mem_map.2 ⟨p, hp, rfl⟩)
        have e3 : (l.map fun p => if p.1 = k then (k, v) else p) = l := by
          refine (List.map_congr_left fun p hp => if_neg (hno p hp)).trans (List.map_id _)
        rw [if_pos (by simp [h]), List.map_cons, e3, if_pos h, dSer_cons]
      · rw [if_neg (by simpa using h), ih hn.2]
        by_cases ha : l.any (fun p => decide (p.1 = k)) = true
        · rw [if_pos ha, if_pos (by simp [List.any_cons, ha]), List.map_cons, if_neg h, dSer_cons]
        · rw [if_neg ha, if_neg (by simp [List.any_cons, ha, h]), List.cons_append, dSer_cons]
  rw [key _ hm]
  unfold bump
  split
  · rename_i ha
    congr 1
    refine List.map_congr_left fun p hp => ?_
    by_cases h : p.1 = k
    · rw [if_pos h, if_pos h]
      have : serOf m k = p.2 := by
        unfold serOf
        have hf : m.find? (fun p => decide (p.1 = k)) = some p := by
          clear ha key
          induction m with
          | nil => cases hp
          | cons e l ih =>
            rw [List.map_cons, List.nodup_cons] at hm
            rcases List.mem_cons.1 hp with rfl | hp
            · simp [h]
            · have hne : ¬ e.1 = k := fun e2 => hm.1 (by rw [e2, ← h]; exact List.mem_map.2 ⟨p, hp, rfl⟩)
              rw [List.find?_cons_of_neg (by simpa using hne)]
              exact ih hm.2 hp
        rw [hf]; rfl
      rw [this]
    · rw [if_neg h, if_neg h]
  · rename_i ha
    have : serOf m k = 0 := by
      unfold serOf
      rw [List.find?_eq_none.2 fun p hp h => ha (List.any_eq_true.2 ⟨p, hp, h⟩)]; rfl
    rw [this]; rfl
def dBk (g : Gb) : D := .box true () (.agg (.cons (.sl true () 3 (dUns true g.units)) (.cons (.map true () (dSer g.ser)) .nil)))
@[simp high] theorem head_dBk (g : Gb) : isHead (dBk g) = true := by rw [dBk, isHead]
@[simp] theorem own_dBk (g : Gb) : (dBk g).allOwn = true := by
  have h : (dSer g.ser).allOwn = true := own_sq fun x hx => by obtain ⟨c, _, rfl⟩ := List.mem_map.1 hx; rfl
  simp [dBk, T.allOwn, own_uns, h]
def movedOf (g : Gb) : List ByteArray := keysS (g.ser.map (·.1))
def serials (g : Gb) : List Int := (movedOf g).map (serOf g.ser)
def eBb (o : Bool) (g : Gb) : D := .agg (.cons (.val (.bool true)) (.cons (.sl o () 3 (dUns o g.units)) (.cons (.sl o () 1 (strs (movedOf g))) (.cons (.sl o () 1 (dInts (serials g))) .nil))))
def eBk (g : Gb) : D := .box true () (eBb true g)
abbrev avE (g : Gb) : AV := .iptr (eBb false g)
@[simp high] theorem head_eBk (g : Gb) : isHead (eBk g) = true := by rw [eBk, isHead]
theorem freeze_eBb (g : Gb) : (eBb true g).freeze = eBb false g := by simp only [eBb, T.freeze, freeze_uns, freeze_ints, freeze_strs]
@[simp] theorem own_eBk (g : Gb) : (eBk g).allOwn = true := by simp [eBk, eBb, T.allOwn, own_uns]
theorem chillE {g : Gb} {t : AV} : (AV.cons (.ptr 0 [.d]) t).chilled (eBk g) = .cons (avE g) (t.chilled (eBk g)) := by
  rw [AV.chilled]; congr 1; rw [eBk, AV.chilled, freeze_eBb]
theorem warmE {f : FuncId} {g : Gb} {Y Z : List D} {t t0 a a' : AV} (hm : Meets Tryz.prog f Y (.cons (avE g) t0) fun av X κ => av = a ∧ X = Z ∧ κ = []) (ht : t.chilled (eBk g) = t0) (ha : a.plain = true) (hZ : ∀ x ∈ Z, x.allOwn = true) (he : a.emb [] 1 = a') :
    Meets Tryz.prog f (eBk g :: Y) (.cons (.ptr 0 [.d]) t) fun av X κ => av = a' ∧ X = eBk g :: Z ∧ κ = [] := by
  have e : (AV.cons (.ptr 0 [.d]) t).chilled (eBk g) = .cons (avE g) t0 := by rw [chillE, ht]
  refine Meets.mono (Meets.warm (d0 := eBk g) (Y := Y) (t := .cons (.ptr 0 [.d]) t) (by rw [e]; exact hm) ?_) ?_
  · rintro av X κ ⟨rfl, rfl, rfl⟩
    exact ⟨ha, hZ, rfl⟩
  · rintro av X κ ⟨av0, X0, ⟨rfl, rfl, _⟩, rfl, rfl, rfl⟩
    exact ⟨he, rfl, rfl⟩
theorem warmL {f : FuncId} {z : Nat} {s : D} {Y Z : List D} {t t0 a a' : AV} (hm : Meets Tryz.prog f Y t0 fun av X κ => av = a ∧ X = Z ∧ κ = []) (ht : t.chilled (.sl true () z s) = t0) (ha : a.plain = true) (hZ : ∀ x ∈ Z, x.allOwn = true) (he : a.emb [] 1 = a') :
    Meets Tryz.prog f (.sl true () z s :: Y) t fun av X κ => av = a' ∧ X = .sl true () z s :: Z ∧ κ = [] := by
  refine Meets.mono (Meets.warm (Y := Y) (by rw [ht]; exact hm) ?_) ?_
  · rintro av X κ ⟨rfl, rfl, rfl⟩
    exact ⟨ha, hZ, rfl⟩
  · rintro av X κ ⟨av0, X0, ⟨rfl, rfl, _⟩, rfl, rfl, rfl⟩
    exact ⟨he, rfl, rfl⟩
theorem merged {P Q : Prop} (h : (Unit → P) → Q) (hp : P) : Q := h fun _ => hp
def ixF {α : Type} (p : α → Bool) (l : List α) : Int := if l.any p then (l.findIdx p : Int) else -1
theorem ixF_hit {α : Type} {p : α → Bool} {l : List α} {i : Nat} (hi : i < l.length) (hall : ∀ j, (h : j < i) → p (l[j]'(by omega)) = false) (hp : p l[i] = true) : ixF p l = i := by
  have h1 : l.any p = true := List.any_eq_true.2 ⟨_, List.getElem_mem hi, hp⟩
  have h2 : l.findIdx p = i := (List.findIdx_eq hi).2 ⟨hp, fun j hj => hall j hj⟩
  rw [ixF, if_pos h1, h2]
theorem ixF_miss {α : Type} {p : α → Bool} {l : List α} (hall : ∀ j, (h : j < l.length) → p l[j] = false) : ixF p l = -1 := by
  have h1 : ¬ l.any p = true := by
    rw [List.any_eq_true]
    rintro ⟨x, hx, hp⟩
    obtain ⟨i, hi, rfl⟩ := List.getElem_of_mem hx
    rw [hall i hi] at hp; cases hp
  rw [ixF, if_neg h1]
theorem ixF_ge {α : Type} {p : α → Bool} {l : List α} : (0 ≤ ixF p l) = (l.any p = true) := by
  unfold ixF
  by_cases h : l.any p = true
  · rw [if_pos h]; simp [h]
  · rw [if_neg h]; simp [h]
theorem take_map_succ {α β : Type} (f : α → β) {l : List α} {i : Nat} (h : i < l.length) : (l.take (i + 1)).map f = (l.take i).map f ++ [f l[i]] := by
  rw [List.take_add_one, List.getElem?_eq_getElem h, List.map_append]; rfl
theorem take_succ_at {α : Type} {l : List α} {i : Nat} (h : i < l.length) : l.take (i + 1) = l.take i ++ [l[i]] := by
  rw [List.take_add_one, List.getElem?_eq_getElem h]; rfl
theorem set_mid {kp mid r : List Int} {v : Int} (h : 0 < mid.length) : (kp ++ (mid ++ r)).set kp.length v = kp ++ v :: (mid.tail ++ r) := by
  cases mid with
  | nil => simp at h
  | cons a l => simp
theorem ixF_some {α : Type} {p : α → Bool} {l : List α} (h : l.any p = true) : ∃ i, ∃ hi : i < l.length, ixF p l = i ∧ p l[i] = true ∧ ∀ j, (hj : j < i) → p (l[j]'(by omega)) = false := by
  obtain ⟨x, hx, hp⟩ := List.any_eq_true.1 h
  have hi : l.findIdx p < l.length := List.findIdx_lt_length_of_exists ⟨x, hx, hp⟩
  refine ⟨l.findIdx p, hi, by rw [ixF, if_pos h], List.findIdx_getElem (w := hi), fun j hj => ?_⟩
  have := List.not_of_lt_findIdx hj
  simpa using this
theorem size_zero (s : ByteArray) : (s = ⟨#[]⟩) ↔ s.size = 0 := by
  constructor
  · rintro rfl; rfl
  · intro h
    obtain ⟨d⟩ := s
    congr
    exact Array.eq_empty_of_size_eq_zero h
theorem numb_take {M : List Bool} {i : Nat} (h : i < M.length) : numb (M.take (i + 1)) = numb (M.take i) ++ (if M[i] = true then [i] else []) := by
  have h1 : (M.take (i + 1)).length = i + 1 := by simp; omega
  have h2 : (M.take i).length = i := by simp; omega
  rw [numb, numb, h1, h2, List.range_succ, List.filter_append]
  congr 1
  · refine List.filter_congr fun j hj => ?_
    have hj := List.mem_range.1 hj
    rw [List.getD_eq_getElem?_getD, List.getD_eq_getElem?_getD, List.getElem?_take_of_lt (by omega), List.getElem?_take_of_lt hj]
  · rw [List.filter_cons, List.getD_eq_getElem?_getD, List.getElem?_take_of_lt (by omega), List.getElem?_eq_getElem h]
    simp only [Option.getD_some, List.filter_nil]
theorem numb_all (M : List Bool) : numb (M.take M.length) = numb M := by rw [List.take_length]
@[simp] theorem numb_zero (M : List Bool) : numb (M.take 0) = [] := by simp [numb]
@[simp] theorem numb_nil : numb [] = [] := rfl
theorem numb_len (M : List Bool) : (numb M).length ≤ M.length := Nat.le_trans (List.length_filter_le _ _) (by simp)
def relB (us : List Un) (k : ByteArray) (i : Nat) : Bool := (us[i]?).any fun u => u.up && hasS u.keys k
theorem relB_iff {us : List Un} {k : ByteArray} {i : Nat} : relB us k i = true ↔ relyB us k i := by
  unfold relB relyB
  cases us[i]? with
  | none => simp
  | some u => simp [hasS_iff]
theorem relB_at {us : List Un} {k : ByteArray} {i : Nat} (h : i < us.length) : relB us k i = (us[i].up && hasS us[i].keys k) := by
  rw [relB, List.getElem?_eq_getElem h]; rfl
def relyL (us : List Un) (k : ByteArray) : List Nat := (List.range us.length).filter (relB us k)
theorem relyL_mem {us : List Un} {k : ByteArray} {i : Nat} : i ∈ relyL us k ↔ relyB us k i := by
  rw [relyL, List.mem_filter, relB_iff, List.mem_range]
  exact ⟨And.right, fun h => ⟨by obtain ⟨u, hu, _⟩ := h; exact (List.getElem?_eq_some_iff.1 hu).1, h⟩⟩
theorem relyL_lt {us : List Un} {k : ByteArray} {i : Nat} (h : i ∈ relyL us k) : i < us.length := List.mem_range.1 (List.mem_filter.1 h).1
theorem relyL_len (us : List Un) (k : ByteArray) : (relyL us k).length ≤ us.length := Nat.le_trans (List.length_filter_le _ _) (by simp)
def relyU (us : List Un) (k : ByteArray) (i : Nat) : List Nat := (List.range i).filter (relB us k)
theorem relyU_succ (us : List Un) (k : ByteArray) (i : Nat) : relyU us k (i + 1) = relyU us k i ++ (if relB us k i = true then [i] else []) := by
  rw [relyU, List.range_succ, List.filter_append, List.filter_cons]; rfl
theorem relyU_len (us : List Un) (k : ByteArray) (i : Nat) : (relyU us k i).length ≤ i := Nat.le_trans (List.length_filter_le _ _) (by simp)
@[simp] theorem relyU_zero (us : List Un) (k : ByteArray) : relyU us k 0 = [] := rfl
theorem relyU_all (us : List Un) (k : ByteArray) : relyU us k us.length = relyL us k := rfl
theorem above_rely (us : List Un) (k : ByteArray) : aboveOf us (· ∈ relyL us k) = aboveOf us (relyB us k) := by
  congr 1; funext x; exact propext relyL_mem
theorem above_one (us : List Un) (i : Nat) : aboveOf us (· ∈ [i]) = aboveOf us fun x => x = i := by
  congr 1; funext x; exact propext List.mem_singleton
theorem nodup_sub : ∀ {l m : List Nat}, l.Nodup → (∀ x ∈ l, x ∈ m) → l.length ≤ m.length
  | [], _, _, _ => Nat.zero_le _
  | a :: l, m, hn, hm => by
    rw [List.nodup_cons] at hn
    have ha : a ∈ m := hm a (by simp)
    have := nodup_sub (l := l) (m := m.erase a) hn.2 fun x hx => (List.mem_erase_of_ne (fun e : x = a => hn.1 (e ▸ hx))).2 (hm x (by simp [hx]))
    rw [List.length_erase_of_mem ha] at this
    have := List.length_pos_of_mem ha
    rw [List.length_cons]; omega
theorem nodup_len {l : List Nat} {n : Nat} (h : l.Nodup) (hl : ∀ y ∈ l, y < n) : l.length ≤ n := by
  have := nodup_sub (m := List.range n) h fun y hy => List.mem_range.2 (hl y hy)
  simpa using this
theorem Bk.inLen {n : Nat} {g : Gb} (b : Bk n g) (x : Nat) : (innOf g.units x).length ≤ 200 := by
  unfold innOf
  cases hx : g.units[x]? with
  | none => simp
  | some u =>
    have := b.ins u (List.mem_of_getElem? hx)
    have := nodup_len this.1 this.2
    have := b.len
    simp only [Option.elim_some]; omega
theorem innOf_at {us : List Un} {x : Nat} (h : x < us.length) : innOf us x = us[x].inn := by rw [innOf, List.getElem?_eq_getElem h]; rfl
theorem Bk.left {n : Nat} {g : Gb} (b : Bk n g) (M : List Bool) : leftW g.units M ≤ 40200 := by
  have h1 : leftW g.units M ≤ ((List.range g.units.length).map fun _ => 201).sum := sum_map_le _ fun i _ => by
    have := b.inLen i
    split <;> omega
  have h2 : ∀ l : List Nat, (l.map fun _ => 201).sum = l.length * 201 := fun l => by induction l with | nil => rfl | cons a l ih => simp [ih]; omega
  have := b.len
  rw [h2, List.length_range] at h1
  omega
theorem getD_at {M : List Bool} {y : Nat} (h : y < M.length) : M.getD y false = M[y] := by rw [List.getD_eq_getElem?_getD, List.getElem?_eq_getElem h]; rfl
end Go.Proofs.YtipokdbfdingmaaGreat

/- What the program asks of lists. -/
namespace Go.Proofs.YtipokdbfdingmaaGreat
set_option linter.all false
open Go.Vc Go.Proofs
set_option linter.unusedSimpArgs false
set_option linter.unusedVariables false
set_option maxRecDepth 100000
set_option maxHeartbeats 4000000
attribute [local irreducible] CallW EqK
theorem isKey_ok (s : ByteArray) : Meets Tryz.prog 54 [] (.cons (avStr s) .nil) fun av X κ => av = avBool (isKeyB s) ∧ X = [] ∧ κ = [] := by
 by_cases h0 : s = ⟨#[]⟩
 ·subst h0
  have hc : isKeyB ⟨#[]⟩ = false := rfl
  refine fb Tryz.func54 Tryz.ntmps54 [.tmp 2] fun w0 I0 F0 hF => ?_
  repeat first|refine n1 ?_|((first|refine rg 0 [0] [0] [] ?_|refine rg 1 [0] [2] [(2, 5)] ?_);simp (maxSteps := 1000000) [hF])
  (try refine nr ?_);(repeat first|refine nb_ ?_|refine nl_ ?_);refine endK.o [2] [] [] ?_;simp [hF, retK, covers, mpre, hc]
 ·have h1 : 1 ≤ s.size := by
   rcases Nat.eq_zero_or_pos s.size with h | h
   ·exact absurd ((size_zero s).2 h) h0
   ·exact h
  have hc : isKeyB s = decide (s.size ≤ 60) := by simp [isKeyB, h1]
  have hd : decide ((s.size : Int) ≤ 60) = decide (s.size ≤ 60) := by simp only [decide_eq_decide]; omega
  refine fb Tryz.func54 Tryz.ntmps54 [.tmp 2] fun w0 I0 F0 hF => ?_
  repeat first|refine n1 ?_|((first|refine rg 0 [0] [0] [] ?_|refine rg 1 [0] [2] [(2, 5)] ?_);simp (maxSteps := 1000000) [hF, h0])
  (try refine nr ?_);(repeat first|refine nb_ ?_|refine nl_ ?_);refine endK.o [2] [] [] ?_;simp [hF, retK, covers, mpre, hc, hd]
theorem notKey_ok (s : ByteArray) : Meets Tryz.prog 77 [] (.cons (avStr s) .nil) fun av X κ => av = avBool (!isKeyB s) ∧ X = [] ∧ κ = [] := by
 refine fb Tryz.func77 Tryz.ntmps77 [.tmp 2] fun w0 I0 F0 hF => ?_
 repeat first|refine n1 ?_|((first|refine rg 0 [0] [0] [] ?_|refine rg 1 [0] [2] [] ?_);simp (maxSteps := 1000000) [hF])
 refine (isKey_ok s).go [] (by simp (maxSteps := 1000000) [hF]) ?_;rintro av X κ ⟨rfl, rfl, rfl⟩;simp (maxSteps := 1000000) [hF]
 (try refine nr ?_);(repeat first|refine nb_ ?_|refine nl_ ?_);refine endK.o [2] [] [] ?_;simp [hF, retK, covers, mpre]
theorem index_ok (ex : Bool) (l : List Int) (x : Int) (hl : l.length ≤ 100000000) : Meets Tryz.prog 80 [] (.cons (.imm 1 (dInts l) ex) (.cons (avInt x) .nil)) fun av X κ => av = avInt (ixF (fun y => decide (x = y)) l) ∧ X = [] ∧ κ = [] := by
 refine fb Tryz.func80 Tryz.ntmps80 [.tmp 4] fun w0 I0 F0 hF => ?_
 repeat first|refine n1 ?_|refine n3 ?_|((first|refine rg 0 [0, 1] [0, 1] [] ?_|refine rg 1 [0, 1] [0, 1, 7, 8] [] ?_);simp (maxSteps := 1000000) [hF])
 refine VS.rounds (fun m st => ∃ (i : Nat), i + m = l.length ∧ (∀ j, (h : j < l.length) → j < i → decide (x = l[j]) = false) ∧ st = ⟨[(0, .imm 1 (dInts l) ex), (1, avInt x), (7, avInt l.length), (8, avInt i)], [], [], []⟩) ⟨l.length, 0, by omega, by omega, by simp⟩ ?_
 rintro m st ⟨i, hi, hall, rfl⟩
 repeat first|refine n1 ?_|((first|refine rg 2 [0, 1, 7, 8] [0, 1, 7, 8, 9] [] ?_|refine nc ?_);simp (maxSteps := 1000000) [hF])
 refine ⟨fun hlt => ?_, fun hge => ?_⟩
 ·have hi' : i < l.length := by omega
  have hn := dInts_nth hi'
  have hw : IntKind.i64.wrap ((i : Int) + 1) = (i + 1 : Nat) := by rw [IntWalk.i64_in _ (by omega)]; rfl
  by_cases hp : x = l[i]
  ·have hr : ixF (fun y => decide (x = y)) l = i := ixF_hit hi' (fun j h => hall j (by omega) h) (by simpa using hp)
   repeat first|refine n1 ?_|refine n2 ?_|refine n3 ?_|((first|refine rg 3 [0, 1, 7, 8] [0, 1, 5, 7, 8] [] ?_|refine rg 4 [0, 1, 5, 7, 8] [0, 1, 5, 7, 8, 16] [] ?_|refine rg 5 [5] [4] [] ?_|refine nc ?_);simp (maxSteps := 1000000) [hF, hn, hi', hp])
   (try refine nr ?_);(repeat first|refine nb_ ?_|refine nl_ ?_);refine endK.o [4] [] [] ?_;simp [hF, retK, covers, mpre, hr]
  ·repeat first|refine n1 ?_|refine n2 ?_|refine n3 ?_|refine n4 ?_|refine n5 ?_|refine n6 ?_|((first|refine rg 3 [0, 1, 7, 8] [0, 1, 5, 7, 8] [] ?_|refine rg 4 [0, 1, 5, 7, 8] [0, 1, 5, 7, 8, 16] [] ?_|refine rg 6 [0, 1, 7, 8] [0, 1, 7, 8] [] ?_|refine nc ?_);simp (maxSteps := 1000000) [hF, hn, hi', hp, hw])
   refine nextK.of [0, 1, 7, 8] [] (m - 1) (by omega) (by simp [hF]) ?_
   refine ⟨i + 1, by omega, ?_, by simp⟩
   intro j hj hji
   rcases Nat.lt_or_ge j i with h' | h'
   ·exact hall j hj h'
   ·obtain rfl : j = i := by omega
    simpa using hp
 ·have hr : ixF (fun y => decide (x = y)) l = -1 := ixF_miss (fun j h => hall j h (by omega))
  repeat first|refine n1 ?_|refine n7 ?_|(refine rg 7 [] [4] [] ?_;simp (maxSteps := 1000000) [hF])
  (try refine nr ?_);(repeat first|refine nb_ ?_|refine nl_ ?_);refine endK.o [4] [] [] ?_;simp [hF, retK, covers, mpre, hr]
theorem contains_ok (ex : Bool) (l : List Int) (x : Int) (hl : l.length ≤ 100000000) : Meets Tryz.prog 53 [] (.cons (.imm 1 (dInts l) ex) (.cons (avInt x) .nil)) fun av X κ => av = avBool (decide (x ∈ l)) ∧ X = [] ∧ κ = [] := by
 refine fb Tryz.func53 Tryz.ntmps53 [.tmp 4] fun w0 I0 F0 hF => ?_
 repeat first|refine n1 ?_|((first|refine rg 0 [0, 1] [0, 1] [] ?_|refine rg 1 [0, 1] [4] [] ?_);simp (maxSteps := 1000000) [hF])
 refine (index_ok ex l x hl).go [] (by simp (maxSteps := 1000000) [hF]) ?_;rintro av X κ ⟨rfl, rfl, rfl⟩;simp (maxSteps := 1000000) [hF]
 have h : decide ((0 : Int) ≤ ixF (fun y => decide (x = y)) l) = decide (x ∈ l) := by
  rw [decide_eq_decide, ixF_ge, List.any_eq_true]
  constructor
  ·rintro ⟨y, hy, h⟩
   simp only [decide_eq_true_eq] at h
   exact h ▸ hy
  ·exact fun h => ⟨x, h, by simp⟩
 (try refine nr ?_);(repeat first|refine nb_ ?_|refine nl_ ?_);refine endK.o [4] [] [] ?_;simp [hF, retK, covers, mpre, h]
theorem indexS_ok (ex : Bool) (l : List ByteArray) (x : ByteArray) (hl : l.length ≤ 100000000) : Meets Tryz.prog 95 [] (.cons (.imm 1 (strs l) ex) (.cons (avStr x) .nil)) fun av X κ => av = avInt (ixF (fun y => decide (x = y)) l) ∧ X = [] ∧ κ = [] := by
 refine fb Tryz.func95 Tryz.ntmps95 [.tmp 4] fun w0 I0 F0 hF => ?_
 repeat first|refine n1 ?_|refine n3 ?_|((first|refine rg 0 [0, 1] [0, 1] [] ?_|refine rg 1 [0, 1] [0, 1, 7, 8] [] ?_);simp (maxSteps := 1000000) [hF])
 refine VS.rounds (fun m st => ∃ (i : Nat), i + m = l.length ∧ (∀ j, (h : j < l.length) → j < i → decide (x = l[j]) = false) ∧ st = ⟨[(0, .imm 1 (strs l) ex), (1, avStr x), (7, avInt l.length), (8, avInt i)], [], [], []⟩) ⟨l.length, 0, by omega, by omega, by simp⟩ ?_
 rintro m st ⟨i, hi, hall, rfl⟩
 repeat first|refine n1 ?_|((first|refine rg 2 [0, 1, 7, 8] [0, 1, 7, 8, 9] [] ?_|refine nc ?_);simp (maxSteps := 1000000) [hF])
 refine ⟨fun hlt => ?_, fun hge => ?_⟩
 ·have hi' : i < l.length := by omega
  have hn := strs_nth hi'
  have hw : IntKind.i64.wrap ((i : Int) + 1) = (i + 1 : Nat) := by rw [IntWalk.i64_in _ (by omega)]; rfl
  by_cases hp : x = l[i]
  ·have hr : ixF (fun y => decide (x = y)) l = i := ixF_hit hi' (fun j h => hall j (by omega) h) (by simpa using hp)
   repeat first|refine n1 ?_|refine n2 ?_|refine n3 ?_|((first|refine rg 3 [0, 1, 7, 8] [0, 1, 5, 7, 8] [] ?_|refine rg 4 [0, 1, 5, 7, 8] [0, 1, 5, 7, 8, 16] [] ?_|refine rg 5 [5] [4] [] ?_|refine nc ?_);simp (maxSteps := 1000000) [hF, hn, hi', hp])
   (try refine nr ?_);(repeat first|refine nb_ ?_|refine nl_ ?_);refine endK.o [4] [] [] ?_;simp [hF, retK, covers, mpre, hr]
  ·repeat first|refine n1 ?_|refine n2 ?_|refine n3 ?_|refine n4 ?_|refine n5 ?_|refine n6 ?_|((first|refine rg 3 [0, 1, 7, 8] [0, 1, 5, 7, 8] [] ?_|refine rg 4 [0, 1, 5, 7, 8] [0, 1, 5, 7, 8, 16] [] ?_|refine rg 6 [0, 1, 7, 8] [0, 1, 7, 8] [] ?_|refine nc ?_);simp (maxSteps := 1000000) [hF, hn, hi', hp, hw])
   refine nextK.of [0, 1, 7, 8] [] (m - 1) (by omega) (by simp [hF]) ?_
   refine ⟨i + 1, by omega, ?_, by simp⟩
   intro j hj hji
   rcases Nat.lt_or_ge j i with h' | h'
   ·exact hall j hj h'
   ·obtain rfl : j = i := by omega
    simpa using hp
 ·have hr : ixF (fun y => decide (x = y)) l = -1 := ixF_miss (fun j h => hall j h (by omega))
  repeat first|refine n1 ?_|refine n7 ?_|(refine rg 7 [] [4] [] ?_;simp (maxSteps := 1000000) [hF])
  (try refine nr ?_);(repeat first|refine nb_ ?_|refine nl_ ?_);refine endK.o [4] [] [] ?_;simp [hF, retK, covers, mpre, hr]
theorem containsS_ok (ex : Bool) (l : List ByteArray) (x : ByteArray) (hl : l.length ≤ 100000000) : Meets Tryz.prog 83 [] (.cons (.imm 1 (strs l) ex) (.cons (avStr x) .nil)) fun av X κ => av = avBool (hasS l x) ∧ X = [] ∧ κ = [] := by
 refine fb Tryz.func83 Tryz.ntmps83 [.tmp 4] fun w0 I0 F0 hF => ?_
 repeat first|refine n1 ?_|((first|refine rg 0 [0, 1] [0, 1] [] ?_|refine rg 1 [0, 1] [4] [] ?_);simp (maxSteps := 1000000) [hF])
 refine (indexS_ok ex l x hl).go [] (by simp (maxSteps := 1000000) [hF]) ?_;rintro av X κ ⟨rfl, rfl, rfl⟩;simp (maxSteps := 1000000) [hF]
 have h : decide ((0 : Int) ≤ ixF (fun y => decide (x = y)) l) = hasS l x := by
  rw [Bool.eq_iff_iff, decide_eq_true_eq, ixF_ge, List.any_eq_true, hasS_iff]
  constructor
  ·rintro ⟨y, hy, h⟩
   simp only [decide_eq_true_eq] at h
   exact h ▸ hy
  ·exact fun h => ⟨x, h, by simp⟩
 (try refine nr ?_);(repeat first|refine nb_ ?_|refine nl_ ?_);refine endK.o [4] [] [] ?_;simp [hF, retK, covers, mpre, h]
theorem indexFunc_ok (ex : Bool) (l : List ByteArray) (hl : l.length ≤ 100000000) : Meets Tryz.prog 92 [] (.cons (.imm 1 (strs l) ex) (.cons (.fn 77 .nil) .nil)) fun av X κ => av = avInt (ixF (fun s => !isKeyB s) l) ∧ X = [] ∧ κ = [] := by
 refine fb Tryz.func92 Tryz.ntmps92 [.tmp 4] fun w0 I0 F0 hF => ?_
 repeat first|refine n1 ?_|refine n3 ?_|((first|refine rg 0 [0, 1] [0, 1] [] ?_|refine rg 1 [0, 1] [0, 1, 7, 8] [] ?_);simp (maxSteps := 1000000) [hF])
 refine VS.rounds (fun m st => ∃ (i : Nat), i + m = l.length ∧ (∀ j, (h : j < l.length) → j < i → (!isKeyB l[j]) = false) ∧ st = ⟨[(0, .imm 1 (strs l) ex), (1, .fn 77 .nil), (7, avInt l.length), (8, avInt i)], [], [], []⟩) ⟨l.length, 0, by omega, by omega, by simp⟩ ?_
 rintro m st ⟨i, hi, hall, rfl⟩
 repeat first|refine n1 ?_|((first|refine rg 2 [0, 1, 7, 8] [0, 1, 7, 8, 9] [] ?_|refine nc ?_);simp (maxSteps := 1000000) [hF])
 refine ⟨fun hlt => ?_, fun hge => ?_⟩
 ·have hi' : i < l.length := by omega
  have hn := strs_nth hi'
  have hw : IntKind.i64.wrap ((i : Int) + 1) = (i + 1 : Nat) := by rw [IntWalk.i64_in _ (by omega)]; rfl
  repeat first|refine n1 ?_|refine n2 ?_|refine n3 ?_|((first|refine rg 3 [0, 1, 7, 8] [0, 1, 5, 7, 8] [] ?_|refine rg 4 [0, 1, 5, 7, 8] [0, 1, 5, 7, 8, 16] [] ?_);simp (maxSteps := 1000000) [hF, hn, hi'])
  refine (notKey_ok l[i]).go [] (by simp (maxSteps := 1000000) [hF]) ?_;rintro av X κ ⟨rfl, rfl, rfl⟩;simp (maxSteps := 1000000) [hF]
  cases hp : isKeyB l[i] with
  | false =>
   have hr : ixF (fun s => !isKeyB s) l = i := ixF_hit hi' (fun j h => hall j (by omega) h) (by simp [hp])
   repeat first|refine n1 ?_|((first|refine rg 5 [5] [4] [] ?_|refine nc ?_);simp (maxSteps := 1000000) [hF, hp])
   (try refine nr ?_);(repeat first|refine nb_ ?_|refine nl_ ?_);refine endK.o [4] [] [] ?_;simp [hF, retK, covers, mpre, hr]
  | true =>
   repeat first|refine n2 ?_|refine n4 ?_|refine n5 ?_|refine n6 ?_|((first|refine rg 6 [0, 1, 7, 8] [0, 1, 7, 8] [] ?_|refine nc ?_);simp (maxSteps := 1000000) [hF, hp, hw])
   refine nextK.of [0, 1, 7, 8] [] (m - 1) (by omega) (by simp [hF]) ?_
   refine ⟨i + 1, by omega, ?_, by simp⟩
   intro j hj hji
   rcases Nat.lt_or_ge j i with h' | h'
   ·exact hall j hj h'
   ·obtain rfl : j = i := by omega
    simp [hp]
 ·have hr : ixF (fun s => !isKeyB s) l = -1 := ixF_miss (fun j h => hall j h (by omega))
  repeat first|refine n1 ?_|refine n7 ?_|(refine rg 7 [] [4] [] ?_;simp (maxSteps := 1000000) [hF])
  (try refine nr ?_);(repeat first|refine nb_ ?_|refine nl_ ?_);refine endK.o [4] [] [] ?_;simp [hF, retK, covers, mpre, hr]
theorem containsFunc_ok (ex : Bool) (l : List ByteArray) (hl : l.length ≤ 100000000) : Meets Tryz.prog 76 [] (.cons (.imm 1 (strs l) ex) (.cons (.fn 77 .nil) .nil)) fun av X κ => av = avBool (!l.all isKeyB) ∧ X = [] ∧ κ = [] := by
 refine fb Tryz.func76 Tryz.ntmps76 [.tmp 4] fun w0 I0 F0 hF => ?_
 repeat first|refine n1 ?_|((first|refine rg 0 [0, 1] [0, 1] [] ?_|refine rg 1 [0, 1] [4] [] ?_);simp (maxSteps := 1000000) [hF])
 refine (indexFunc_ok ex l hl).go [] (by simp (maxSteps := 1000000) [hF]) ?_;rintro av X κ ⟨rfl, rfl, rfl⟩;simp (maxSteps := 1000000) [hF]
 have h : decide ((0 : Int) ≤ ixF (fun s => !isKeyB s) l) = !l.all isKeyB := by simp only [ixF_ge, Bool.decide_eq_true, List.any_eq_not_all_not, Bool.not_not]
 (try refine nr ?_);(repeat first|refine nb_ ?_|refine nl_ ?_);refine endK.o [4] [] [] ?_;simp [hF, retK, covers, mpre, h]
theorem clone_ok (ex : Bool) (l : List Int) (hl : l.length ≤ 100000000) : Meets Tryz.prog 27 [] (.cons (.imm 1 (dInts l) ex) .nil)
  fun av X κ => av = .sub 0 [] 0 l.length false ∧ X = [.sl true () 1 (dInts l)] ∧ κ = [] := by
 refine fb Tryz.func27 Tryz.ntmps27 [.tmp 2] fun w0 I0 F0 hF => ?_
 repeat first|refine n1 ?_|((first|refine rg 0 [0] [0] [] ?_|refine rg 1 [0] [0, 4] [] ?_);simp (maxSteps := 1000000) [hF])
 refine ⟨?_, fun h0 => ?_⟩
 ·repeat first|refine n1 ?_|refine n2 ?_|refine ⟨⟨by omega, by omega⟩, ?_⟩|((first|refine rg 3 [0] [2] [] ?_|refine nc ?_);simp (maxSteps := 1000000) [hF])
  (try refine nr ?_);(repeat first|refine nb_ ?_|refine nl_ ?_);refine endK.o [2] [0] [] ?_;simp [hF, retK, covers, mpre]
 ·repeat first|refine n1 ?_|((first|refine rg 2 [] [2] [] ?_|refine nc ?_);simp (maxSteps := 1000000) [hF])
  refine VS.hold0 2 1 (by simp) ?_
  subst h0
  (try refine nr ?_);(repeat first|refine nb_ ?_|refine nl_ ?_);refine endK.o [2] [0] [] ?_;simp [hF, retK, covers, mpre, dInts, sq]
theorem clone_c (ex : Bool) (l : List Int) (hl : l.length ≤ 100000000) : Meets Tryz.prog 27 [.sl true () 1 (dInts l)] (.cons (.sub 0 [] 0 l.length ex) .nil)
  fun av X κ => av = .sub 1 [] 0 l.length false ∧ X = [.sl true () 1 (dInts l), .sl true () 1 (dInts l)] ∧ κ = [] :=
 warmL (clone_ok ex l hl) (by simp [AV.chilled]) rfl (by simp [T.allOwn]) rfl
theorem cloneS_ok (ex : Bool) (l : List ByteArray) (hl : l.length ≤ 1000000) : Meets Tryz.prog 26 [] (.cons (.imm 1 (strs l) ex) .nil)
  fun av X κ => av = .sub 0 [] 0 l.length false ∧ X = [.sl true () 1 (strs l)] ∧ κ = [] := by
 have c1 : l.length * 16 ≤ 140737488355328 := by omega
 have c2 : l.length ≤ 9223372036854775807 := by omega
 refine fb Tryz.func26 Tryz.ntmps26 [.tmp 2] fun w0 I0 F0 hF => ?_
 repeat first|refine n1 ?_|((first|refine rg 0 [0] [0] [] ?_|refine rg 1 [0] [0, 4] [] ?_);simp (maxSteps := 1000000) [hF, c1, c2])
 refine ⟨?_, fun h0 => ?_⟩
 ·repeat first|refine n1 ?_|refine n2 ?_|((first|refine rg 3 [0] [2] [] ?_|refine nc ?_);simp (maxSteps := 1000000) [hF, c1, c2])
  (try refine nr ?_);(repeat first|refine nb_ ?_|refine nl_ ?_);refine endK.o [2] [0] [] ?_;simp [hF, retK, covers, mpre]
 ·repeat first|refine n1 ?_|((first|refine rg 2 [] [2] [] ?_|refine nc ?_);simp (maxSteps := 1000000) [hF, c1, c2])
  refine VS.hold0 2 1 (by simp) ?_
  subst h0
  (try refine nr ?_);(repeat first|refine nb_ ?_|refine nl_ ?_);refine endK.o [2] [0] [] ?_;simp [hF, retK, covers, mpre, strs, sq]
theorem cloneS_c (ex : Bool) (l : List ByteArray) (hl : l.length ≤ 1000000) : Meets Tryz.prog 26 [.sl true () 1 (strs l)] (.cons (.sub 0 [] 0 l.length ex) .nil)
  fun av X κ => av = .sub 1 [] 0 l.length false ∧ X = [.sl true () 1 (strs l), .sl true () 1 (strs l)] ∧ κ = [] :=
 warmL (cloneS_ok ex l hl) (by simp [AV.chilled]) rfl (by simp [T.allOwn]) rfl
theorem contains_c (ex : Bool) (l : List Int) (x : Int) (hl : l.length ≤ 100000000) : Meets Tryz.prog 53 [.sl true () 1 (dInts l)] (.cons (.sub 0 [] 0 l.length ex) (.cons (avInt x) .nil)) fun av X κ => av = avBool (decide (x ∈ l)) ∧ X = [.sl true () 1 (dInts l)] ∧ κ = [] :=
 warmL (contains_ok ex l x hl) (by simp [AV.chilled]) rfl (fun _ h => by cases h) rfl
theorem containsS_c (ex : Bool) (l : List ByteArray) (x : ByteArray) (hl : l.length ≤ 100000000) : Meets Tryz.prog 83 [.sl true () 1 (strs l)] (.cons (.sub 0 [] 0 l.length ex) (.cons (avStr x) .nil)) fun av X κ => av = avBool (hasS l x) ∧ X = [.sl true () 1 (strs l)] ∧ κ = [] :=
 warmL (containsS_ok ex l x hl) (by simp [AV.chilled]) rfl (fun _ h => by cases h) rfl
theorem marked_ok (ex : Bool) (M : List Bool) (hl : M.length ≤ 1000000) : Meets Tryz.prog 71 [] (.cons (.imm 1 (dBools M) ex) .nil)
  fun av X κ => av = .sub 0 [] 0 (numb M).length false ∧ X = [.sl true () 1 (dInts (nats (numb M)))] ∧ κ = [] := by
 refine fb Tryz.func71 Tryz.ntmps71 [.tmp 2] fun w0 I0 F0 hF => ?_
 repeat first|refine n1 ?_|refine n3 ?_|((first|refine rg 0 [0] [0] [] ?_|refine rg 1 [0] [0, 3] [] ?_|refine rg 2 [0, 3] [3, 6, 7, 8] [] ?_);simp (maxSteps := 1000000) [hF])
 refine VS.hold0 3 1 (by simp) ?_
 refine VS.pick [3, 6, 7, 8] [0] (by simp [hF]) ?_;simp [hF]
 refine VS.rounds (fun m st => ∃ (i : Nat), i + m = M.length ∧ st = ⟨[(3, .sub 0 [] 0 (numb (M.take i)).length false), (6, .imm 1 (dBools M) ex), (7, avInt M.length), (8, avInt i)], [.sl true () 1 (dInts (nats (numb (M.take i))))], [], []⟩) ⟨M.length, 0, by omega, by simp⟩ ?_
 rintro m st ⟨i, hi, rfl⟩
 have hnl : (numb (M.take i)).length ≤ i := Nat.le_trans (numb_len _) (by simp; omega)
 repeat first|refine n1 ?_|((first|refine rg 3 [3, 6, 7, 8] [3, 6, 7, 8, 9] [] ?_|refine nc ?_);simp (maxSteps := 1000000) [hF])
 refine ⟨fun hlt => ?_, fun hge => ?_⟩
 ·have hi' : i < M.length := by omega
  have hn := dBools_nth hi'
  have hw : IntKind.i64.wrap ((i : Int) + 1) = (i + 1 : Nat) := by rw [IntWalk.i64_in _ (by omega)]; rfl
  have hs := numb_take hi'
  have c1 : ((numb (M.take i)).length + 1) * 8 ≤ 140737488355328 := by omega
  have c2 : (numb (M.take i)).length ≤ 9223372036854775806 := by omega
  cases hb : M[i] with
  | true =>
   rw [hb] at hn hs
   simp only [if_true] at hs
   repeat first|refine n1 ?_|refine n2 ?_|refine n3 ?_|refine n4 ?_|refine n5 ?_|refine n6 ?_|((first|refine rg 4 [3, 6, 7, 8] [3, 4, 5, 6, 7, 8] [] ?_|refine rg 5 [3, 4, 5, 6, 7, 8] [3, 4, 6, 7, 8, 13] [] ?_|refine rg 6 [3, 4, 6, 7, 8] [3, 6, 7, 8] [] ?_|refine rg 7 [3, 6, 7, 8] [3, 6, 7, 8] [] ?_|refine nc ?_);simp (maxSteps := 1000000) [hF, hn, hi', hw, c1, c2])
   refine nextK.of [3, 6, 7, 8] [0] (m - 1) (by omega) (by simp [hF]) ?_
   refine ⟨i + 1, by omega, ?_⟩
   rw [hs]
   simp
  | false =>
   rw [hb] at hn hs
   simp only [Bool.false_eq_true, if_false, List.append_nil] at hs
   repeat first|refine n1 ?_|refine n2 ?_|refine n3 ?_|refine n4 ?_|refine n5 ?_|refine n6 ?_|((first|refine rg 4 [3, 6, 7, 8] [3, 4, 5, 6, 7, 8] [] ?_|refine rg 5 [3, 4, 5, 6, 7, 8] [3, 4, 6, 7, 8, 13] [] ?_|refine rg 7 [3, 6, 7, 8] [3, 6, 7, 8] [] ?_|refine nc ?_);simp (maxSteps := 1000000) [hF, hn, hi', hw])
   refine nextK.of [3, 6, 7, 8] [0] (m - 1) (by omega) (by simp [hF]) ?_
   refine ⟨i + 1, by omega, ?_⟩
   rw [hs]
   simp
 ·have hil : i = M.length := by omega
  subst hil
  rw [numb_all]
  repeat first|refine n1 ?_|refine n7 ?_|(refine rg 8 [3] [2] [] ?_;simp (maxSteps := 1000000) [hF])
  (try refine nr ?_);(repeat first|refine nb_ ?_|refine nl_ ?_);refine endK.o [2] [0] [] ?_;simp [hF, retK, covers, mpre]
theorem marked_c (ex : Bool) (M : List Bool) (hl : M.length ≤ 1000000) : Meets Tryz.prog 71 [.sl true () 1 (dBools M)] (.cons (.sub 0 [] 0 M.length ex) .nil)
  fun av X κ => av = .sub 1 [] 0 (numb M).length false ∧ X = [.sl true () 1 (dBools M), .sl true () 1 (dInts (nats (numb M)))] ∧ κ = [] :=
 warmL (marked_ok ex M hl) (by simp [AV.chilled]) rfl (by simp [T.allOwn]) rfl
theorem real_c (g : Gb) : Meets Tryz.prog 23 [dBk g] (.cons (.ptr 0 [.d]) .nil) fun av X κ => av = avBool true ∧ X = [dBk g] ∧ κ = [] := by
 refine fb Tryz.func23 Tryz.ntmps23 [.tmp 2] fun w0 I0 F0 hF => ?_
 repeat first|refine n1 ?_|((first|refine rg 0 [0] [0] [] ?_|refine rg 1 [0] [2] [(2, 5)] ?_);simp (maxSteps := 1000000) [hF, dBk])
 (try refine nr ?_);(repeat first|refine nb_ ?_|refine nl_ ?_);refine endK.o [2] [0] [] ?_;simp [hF, retK, covers, mpre, dBk]
theorem has_c (g : Gb) (u : Int) : Meets Tryz.prog 51 [dBk g] (.cons (.ptr 0 [.d]) (.cons (avInt u) .nil)) fun av X κ => av = avBool (hasB g u) ∧ X = [dBk g] ∧ κ = [] := by
 by_cases h0 : 0 ≤ u
 ·have hc : hasB g u = decide (u < g.units.length) := by simp [hasB, h0]
  refine fb Tryz.func51 Tryz.ntmps51 [.tmp 4] fun w0 I0 F0 hF => ?_
  repeat first|refine n1 ?_|((first|refine rg 0 [0, 1] [0, 1] [] ?_|refine rg 1 [0, 1] [4] [(2, 7), (6, 11)] ?_);simp (maxSteps := 1000000) [hF, dBk])
  refine (real_c g).go [(0, [])] (by simp (maxSteps := 1000000) [hF, dBk, h0]) ?_;rintro av X κ ⟨rfl, rfl, rfl⟩;simp (maxSteps := 1000000) [hF, dBk, h0]
  (try refine nr ?_);(repeat first|refine nb_ ?_|refine nl_ ?_);refine endK.o [4] [0] [] ?_;simp [hF, retK, covers, mpre, dBk, hc]
 ·have hc : hasB g u = false := by simp [hasB, h0]
  refine fb Tryz.func51 Tryz.ntmps51 [.tmp 4] fun w0 I0 F0 hF => ?_
  repeat first|refine n1 ?_|((first|refine rg 0 [0, 1] [0, 1] [] ?_|refine rg 1 [0, 1] [4] [(2, 7), (6, 11)] ?_);simp (maxSteps := 1000000) [hF, dBk])
  refine (real_c g).go [(0, [])] (by simp (maxSteps := 1000000) [hF, dBk, h0]) ?_;rintro av X κ ⟨rfl, rfl, rfl⟩;simp (maxSteps := 1000000) [hF, dBk, h0]
  (try refine nr ?_);(repeat first|refine nb_ ?_|refine nl_ ?_);refine endK.o [4] [0] [] ?_;simp [hF, retK, covers, mpre, dBk, hc]
theorem above_ok {n : Nat} (g : Gb) (b : Bk n g) (ex : Bool) (ws : List Nat) (hws : ∀ x ∈ ws, x < g.units.length) (hwl : ws.length ≤ 100000) : Meets Tryz.prog 52 [dBk g] (.cons (.ptr 0 [.d]) (.cons (.imm 1 (dInts (nats ws)) ex) .nil))
  fun av X κ => av = .sub 1 [] 0 g.units.length true ∧ X = [dBk g, .sl true () 1 (dBools (aboveOf g.units (· ∈ ws)))] ∧ κ = [] := by
 have hul := b.len
 have b1 : (g.units.length : Int) ≤ 140737488355328 := by omega
 have b2 : (g.units.length : Int) ≤ 9223372036854775807 := by omega
 have hz := zeros_bools g.units.length
 have hle := b.left (List.replicate g.units.length false)
 refine fb Tryz.func52 Tryz.ntmps52 [.tmp 4] fun w0 I0 F0 hF => ?_
 repeat first|refine n1 ?_|((first|refine rg 0 [0, 1] [0, 1] [] ?_|refine rg 1 [0, 1] [0, 1, 5] [] ?_|refine rg 2 [0, 1, 5] [0, 5, 6] [] ?_);simp (maxSteps := 1000000) [hF, dBk, b1, b2])
 refine (clone_ok ex (nats ws) (by simp; omega)).go [] (by simp (maxSteps := 1000000) [hF, hz]) ?_;rintro av X κ ⟨rfl, rfl, rfl⟩;simp (maxSteps := 1000000) [hF, hz]
 repeat first|refine n1 ?_|refine n3 ?_
 refine VS.pick [0, 5, 6] [0, 1, 2] (by simp [hF]) ?_;simp [hF]
 refine VS.rounds (fun m st => ∃ (M : List Bool) (W : List Nat) (z : List Int), Wk g.units (· ∈ ws) M W ∧ leftW g.units M + W.length = m ∧ m ≤ 1000000 ∧ (∀ x ∈ W, x < g.units.length) ∧ st = ⟨[(0, .ptr 0 [.d]), (5, .sub 1 [] 0 g.units.length true), (6, .sub 2 [] 0 W.length false)],
  [dBk g, .sl true () 1 (dBools M), .sl true () 1 (dInts (nats W ++ z))], [], []⟩) ⟨leftW g.units (List.replicate g.units.length false) + ws.length, List.replicate g.units.length false, ws, [], Wk.begin, rfl, by omega, hws, by simp [dBk, hz]⟩ ?_
 rintro m st ⟨M, W, z, hwk, hm, hmb, hlt, rfl⟩
 have hML := hwk.len
 repeat first|refine n1 ?_|((first|refine rg 3 [0, 5, 6] [0, 5, 6, 18] [] ?_|refine nc ?_);simp (maxSteps := 1000000) [hF, dBk])
 refine ⟨fun hne => ?_, fun he => ?_⟩
 ·obtain ⟨W', y, rfl⟩ : ∃ W' y, W = W' ++ [y] := ⟨W.dropLast, W.getLast (by intro e; subst e; simp at hne), (List.dropLast_concat_getLast _).symm⟩
  have hy : y < g.units.length := hlt y (by simp)
  have hys : y < M.length := by omega
  simp only [List.length_append, List.length_cons, List.length_nil] at hm
  have hlen : (W' ++ [y]).length = W'.length + 1 := by simp
  have hn : (dInts (nats W' ++ (y : Int) :: z)).nth W'.length = .val (.int .i64 y) := by
   have e : (nats W' ++ (y : Int) :: z)[(nats W').length]? = some (y : Int) := by simp
   rw [nats_len] at e
   obtain ⟨h1, h2⟩ := List.getElem?_eq_some_iff.1 e
   rw [dInts_nth h1, h2]
  have hsub : IntKind.i64.wrap (W'.length : Int) = (W'.length : Int) := IntWalk.i64_in _ (by omega)
  have c1 : (W'.length : Int) < (W'.length : Int) + 1 := by omega
  have c2 : W'.length < W'.length + 1 := by omega
  have c5 : (W'.length : Int) ≤ 9223372036854775807 := by omega
  have hbn := dBools_nth hys
  have c3 : (y : Int) < g.units.length := by omega
  have c6 : W'.length < W'.length + (z.length + 1) := by omega
  repeat first|refine n1 ?_|refine n2 ?_|refine n3 ?_|((first|refine rg 4 [0, 5, 6] [0, 5, 6, 7] [] ?_|refine rg 5 [0, 5, 6, 7] [0, 5, 6, 7] [] ?_);simp (maxSteps := 1000000) [hF, dBk, hlen, hn, hsub, c1, c2, c6])
  cases hb : M[y] with
  | true =>
   rw [hb] at hbn
   repeat first|refine n2 ?_|refine n4 ?_|refine n6 ?_|((first|refine rg 6 [0, 5, 6, 7] [0, 5, 6, 7, 34] [] ?_|refine nc ?_);simp (maxSteps := 1000000) [hF, hbn, hys, c3, hML, dBk])
   refine nextK.of [0, 5, 6] [0, 1, 2] (m - 1) (by omega) (by simp [hF]) ?_
   refine ⟨M, W', y :: z, hwk.pass (by rw [getD_at hys, hb]), by omega, by omega, fun x hx => hlt x (by simp [hx]), by simp [dBk]⟩
  | false =>
   rw [hb] at hbn
   have hset := dBools_set M y true
   have htn := dUns_nth (o := true) hy
   have hin := innOf_at hy
   have hil := b.inLen y
   rw [hin] at hil
   have hlw := leftW_take hML hy (by rw [getD_at hys, hb])
   rw [hin] at hlw
   have c7 : (W'.length + g.units[y].inn.length) * 8 ≤ 140737488355328 := by omega
   have c8 : W'.length + g.units[y].inn.length ≤ 9223372036854775807 := by omega
   have hmid : ((dInts (nats W' ++ (y : Int) :: z)).mid 0 W'.length).app (dInts (nats g.units[y].inn)) = dInts (nats (W' ++ g.units[y].inn)) := by
    rw [ints_mid, List.drop_zero, List.take_append_of_le_length (by simp), List.take_of_length_le (by simp), dInts_app, nats_app]
   repeat first|refine n1 ?_|refine n4 ?_|refine n6 ?_|((first|refine rg 6 [0, 5, 6, 7] [0, 5, 6, 7, 34] [] ?_|refine rg 7 [0, 5, 6, 7] [0, 5, 6, 7] [] ?_|refine rg 8 [0, 5, 6, 7] [0, 5, 6] [] ?_|refine nc ?_);simp (maxSteps := 1000000) [hF, hbn, hys, c3, hML, dBk, hset, htn, hy, c7, c8, hmid])
   refine nextK.of [0, 5, 6] [0, 1, 2] (m - 2) (by omega) (by simp [hF]) ?_
   refine ⟨M.set y true, W' ++ g.units[y].inn, [], by rw [← hin]; exact hwk.take hy, by simp; omega, by omega, fun x hx => ?_, by simp [dBk]⟩
   rcases List.mem_append.1 hx with hx | hx
   ·exact hlt x (by simp [hx])
   ·exact (b.ins _ (List.getElem_mem hy)).2 x hx
 ·have he : W = [] := by simpa using he
  subst he
  have hd := hwk.done
  subst hd
  repeat first|refine n1 ?_|refine n7 ?_|(refine rg 9 [5] [4] [] ?_;simp (maxSteps := 1000000) [hF, dBk])
  (try refine nr ?_);(repeat first|refine nb_ ?_|refine nl_ ?_);refine endK.o [4] [0, 1] [] ?_;simp [hF, retK, covers, mpre, dBk]
theorem above_w {n : Nat} (g : Gb) (b : Bk n g) (ex : Bool) (ws : List Nat) (hws : ∀ x ∈ ws, x < g.units.length) (hwl : ws.length ≤ 100000) : Meets Tryz.prog 52 [.sl true () 1 (dInts (nats ws)), dBk g] (.cons (.ptr 1 [.d]) (.cons (.sub 0 [] 0 ws.length ex) .nil))
  fun av X κ => av = .sub 2 [] 0 g.units.length true ∧ X = [.sl true () 1 (dInts (nats ws)), dBk g, .sl true () 1 (dBools (aboveOf g.units (· ∈ ws)))] ∧ κ = [] :=
 warmL (above_ok g b ex ws hws hwl) (by simp [AV.chilled]) rfl (by simp [T.allOwn]) rfl
theorem above_1 {n : Nat} (g : Gb) (b : Bk n g) (ex : Bool) (i : Nat) (hi : i < g.units.length) : Meets Tryz.prog 52 [.sl true () 1 (dInts (nats [i])), dBk g] (.cons (.ptr 1 [.d]) (.cons (.sub 0 [] 0 1 ex) .nil))
  fun av X κ => av = .sub 2 [] 0 g.units.length true ∧ X = [.sl true () 1 (dInts (nats [i])), dBk g, .sl true () 1 (dBools (aboveOf g.units fun x => x = i))] ∧ κ = [] := by
 have h := above_w g b ex [i] (fun x hx => by rw [List.mem_singleton.1 hx]; exact hi) (by simp)
 rw [above_one] at h
 exact h
theorem relying_ok {n : Nat} (g : Gb) (b : Bk n g) (k : ByteArray) : Meets Tryz.prog 56 [dBk g] (.cons (.ptr 0 [.d]) (.cons (avStr k) .nil))
  fun av X κ => av = .sub 1 [] 0 (relyL g.units k).length false ∧ X = [dBk g, .sl true () 1 (dInts (nats (relyL g.units k)))] ∧ κ = [] := by
 have hul := b.len
 refine fb Tryz.func56 Tryz.ntmps56 [.tmp 4] fun w0 I0 F0 hF => ?_
 repeat first|refine n1 ?_|refine n3 ?_|((first|refine rg 0 [0, 1] [0, 1] [] ?_|refine rg 1 [0, 1] [0, 1, 5] [] ?_|refine rg 2 [0, 1, 5] [1, 5, 11, 12, 13] [] ?_);simp (maxSteps := 1000000) [hF, dBk])
 refine VS.hold0 5 1 (by simp) ?_
 refine VS.pick [1, 5, 11, 12, 13] [0, 1] (by simp [hF]) ?_;simp [hF]
 refine VS.rounds (fun m st => ∃ (i : Nat), i + m = g.units.length ∧ st = ⟨[(1, avStr k), (5, .sub 1 [] 0 (relyU g.units k i).length false), (11, .sub 0 [.d, .f 0] 0 g.units.length false), (12, avInt g.units.length), (13, avInt i)],
  [dBk g, .sl true () 1 (dInts (nats (relyU g.units k i)))], [], []⟩) ⟨g.units.length, 0, by omega, by simp [dBk]⟩ ?_
 rintro m st ⟨i, hi, rfl⟩
 have hnl := relyU_len g.units k i
 repeat first|refine n1 ?_|((first|refine rg 3 [1, 5, 11, 12, 13] [1, 5, 11, 12, 13, 14] [] ?_|refine nc ?_);simp (maxSteps := 1000000) [hF, dBk])
 refine ⟨fun hlt => ?_, fun hge => ?_⟩
 ·have hi' : i < g.units.length := by omega
  have hn := dUns_nth (o := true) hi'
  have hw : IntKind.i64.wrap ((i : Int) + 1) = (i + 1 : Nat) := by rw [IntWalk.i64_in _ (by omega)]; rfl
  have hs := relyU_succ g.units k i
  have hr := relB_at (k := k) hi'
  have ha := (b.asc _ (List.getElem_mem hi')).2
  have c1 : ((relyU g.units k i).length + 1) * 8 ≤ 140737488355328 := by omega
  have c2 : (relyU g.units k i).length ≤ 9223372036854775806 := by omega
  cases hu : g.units[i].up with
  | false =>
   rw [hu] at hr
   simp only [Bool.false_and] at hr
   rw [hr] at hs
   simp only [Bool.false_eq_true, if_false, List.append_nil] at hs
   repeat first|refine n1 ?_|refine n2 ?_|refine n3 ?_|refine n4 ?_|refine n5 ?_|refine n6 ?_|((first|refine rg 4 [1, 5, 11, 12, 13] [1, 5, 6, 7, 11, 12, 13] [] ?_|refine rg 5 [1, 5, 6, 7, 11, 12, 13] [1, 5, 6, 11, 12, 13, 25] [(2, 20)] ?_|refine rg 7 [1, 5, 11, 12, 13] [1, 5, 11, 12, 13] [] ?_|refine nc ?_);simp (maxSteps := 1000000) [hF, dBk, hn, hi', hw, hu])
   refine nextK.of [1, 5, 11, 12, 13] [0, 1] (m - 1) (by omega) (by simp [hF]) ?_
   exact ⟨i + 1, by omega, by rw [hs]; simp [dBk]⟩
  | true =>
   rw [hu] at hr
   simp only [Bool.true_and] at hr
   have hsm := dUns_same (o := true) hi' hu
   repeat first|refine n1 ?_|refine n2 ?_|refine n3 ?_|((first|refine rg 4 [1, 5, 11, 12, 13] [1, 5, 6, 7, 11, 12, 13] [] ?_|refine rg 5 [1, 5, 6, 7, 11, 12, 13] [1, 5, 6, 11, 12, 13, 25] [(2, 20)] ?_);simp (maxSteps := 1000000) [hF, dBk, hn, hi', hw, hu])
   refine (containsS_c false g.units[i].keys k (by omega)).go [(0, [.d, .f 0, .i i, .f 1])] (by simp (maxSteps := 1000000) [hF, dBk, hn, hi', hw, hu, hsm]) ?_;rintro av X κ ⟨rfl, rfl, rfl⟩;simp (maxSteps := 1000000) [hF, dBk, hn, hi', hw, hu, hsm]
   cases hh : hasS g.units[i].keys k with
   | true =>
    rw [hr, hh] at hs
    simp only [if_true] at hs
    repeat first|refine n4 ?_|refine n5 ?_|refine n6 ?_|((first|refine rg 6 [1, 5, 6, 11, 12, 13] [1, 5, 11, 12, 13] [] ?_|refine rg 7 [1, 5, 11, 12, 13] [1, 5, 11, 12, 13] [] ?_|refine nc ?_);simp (maxSteps := 1000000) [hF, dBk, hh, hw, c1, c2, hsm])
    refine nextK.of [1, 5, 11, 12, 13] [0, 1] (m - 1) (by omega) (by simp [hF]) ?_
    exact ⟨i + 1, by omega, by rw [hs]; simp [dBk, hsm]⟩
   | false =>
    rw [hr, hh] at hs
    simp only [Bool.false_eq_true, if_false, List.append_nil] at hs
    repeat first|refine n2 ?_|refine n4 ?_|refine n5 ?_|refine n6 ?_|((first|refine rg 7 [1, 5, 11, 12, 13] [1, 5, 11, 12, 13] [] ?_|refine nc ?_);simp (maxSteps := 1000000) [hF, dBk, hh, hw, hsm])
    refine nextK.of [1, 5, 11, 12, 13] [0, 1] (m - 1) (by omega) (by simp [hF]) ?_
    exact ⟨i + 1, by omega, by rw [hs]; simp [dBk, hsm]⟩
 ·have hil : i = g.units.length := by omega
  subst hil
  repeat first|refine n1 ?_|refine n7 ?_|(refine rg 8 [5] [4] [] ?_;simp (maxSteps := 1000000) [hF])
  (try refine nr ?_);(repeat first|refine nb_ ?_|refine nl_ ?_);refine endK.o [4] [0, 1] [] ?_;simp [hF, retK, covers, mpre, dBk, relyU_all]
theorem relyL_s (us : List Un) (k : ByteArray) : ∀ x ∈ relyL us k, x < us.length := fun x hx => relyL_lt hx
end Go.Proofs.YtipokdbfdingmaaGreat

/- Lists of texts, plainly: what Compact leaves; where BinarySearch ends. -/
namespace Go.Proofs.YtipokdbfdingmaaGreat
set_option linter.all false
open Go.Vc Go.Proofs
theorem leB_eq : Go.Vc.leB = leS := rfl
def keepL (l : List ByteArray) (j : Nat) : Bool := decide (j = 0) || !decide (l.getD j ⟨#[]⟩ = l.getD (j - 1) ⟨#[]⟩)
def compL (l : List ByteArray) : List ByteArray := ((List.range l.length).filter (keepL l)).map fun j => l.getD j ⟨#[]⟩
theorem getD_lt {l : List ByteArray} {j : Nat} (h : j < l.length) : l.getD j ⟨#[]⟩ = l[j] := by rw [List.getD_eq_getElem?_getD, List.getElem?_eq_getElem h]; rfl
theorem compact_compL (l : List ByteArray) : Lib.compact (l.map ByteArray.toList) = (compL l).map ByteArray.toList := by
  have hd : ∀ j, j < l.length → (l.map ByteArray.toList).toArray[j]! = (l.getD j ⟨#[]⟩).toList := fun j hj => by
    rw [getElem!_pos _ j (by simpa using hj), getD_lt hj]; simp
  rw [Lib.compact, Lib.compactUpTo, compL, List.map_map, List.length_map]
  have hf : (List.range l.length).filter (Lib.keeps (l.map ByteArray.toList).toArray) = (List.range l.length).filter (keepL l) := by
    refine List.filter_congr fun j hj => ?_
    have hj' := List.mem_range.1 hj
    by_cases h0 : j = 0
    · subst h0; simp [Lib.keeps, keepL]
    · have e1 := hd j hj'
      have e2 := hd (j - 1) (by omega)
      by_cases he : l.getD j ⟨#[]⟩ = l.getD (j - 1) ⟨#[]⟩
      · rw [Lib.keeps_neg (by omega) (by rw [e1, e2, he]), keepL]
        simp only [h0, he, decide_false, decide_true, Bool.not_true, Bool.or_false]
      · rw [Lib.keeps_pos (by rw [e1, e2]; exact fun e => he (str_ext e)), keepL]
        simp only [he, decide_false, Bool.not_false, Bool.or_true]
  rw [hf]
  refine List.map_congr_left fun j hj => ?_
  exact hd j (List.mem_range.1 (List.mem_filter.1 hj).1)
theorem compL_mem {l : List ByteArray} {x : ByteArray} : x ∈ compL l ↔ x ∈ l := by
  rw [compL, List.mem_map]
  constructor
  · rintro ⟨j, hj, rfl⟩
    have hl := List.mem_range.1 (List.mem_filter.1 hj).1
    rw [getD_lt hl]; exact List.getElem_mem hl
  · intro h
    obtain ⟨j, hj, rfl⟩ := List.mem_iff_getElem.1 h
    have key : ∀ j, j < l.length → ∃ a, a ∈ (List.range l.length).filter (keepL l) ∧ l.getD a ⟨#[]⟩ = l.getD j ⟨#[]⟩ := by
      intro j
      induction j with
      | zero => exact fun h => ⟨0, List.mem_filter.2 ⟨List.mem_range.2 h, by simp [keepL]⟩, rfl⟩
      | succ j ih =>
        intro h
        by_cases hk : keepL l (j + 1) = true
        · exact ⟨j + 1, List.mem_filter.2 ⟨List.mem_range.2 h, hk⟩, rfl⟩
        · have he : l.getD (j + 1) ⟨#[]⟩ = l.getD j ⟨#[]⟩ := by
            rw [keepL] at hk
            simp only [Nat.add_one_ne_zero, decide_false, Bool.false_or, Nat.add_sub_cancel, Bool.not_eq_true', decide_eq_false_iff_not, Classical.not_not] at hk
            exact hk
          obtain ⟨a, ha, e⟩ := ih (by omega)
          exact ⟨a, ha, by rw [e, he]⟩
    obtain ⟨a, ha, e⟩ := key j hj
    exact ⟨a, ha, by rw [e, getD_lt hj]⟩
theorem compL_asc {l : List ByteArray} (h : l.Pairwise fun a b => leS a b = true) : Asc (compL l) := by
  rw [Asc, compL, List.pairwise_map, List.pairwise_filter]
  refine List.Pairwise.imp_of_mem (R := fun a b => a < b) (fun {i j} hi hj hij hki hkj => ?_) List.pairwise_lt_range
  have hi' := List.mem_range.1 hi
  have hj' := List.mem_range.1 hj
  have hne : ¬ l[j] = l[j - 1] := by
    rw [keepL, getD_lt hj', getD_lt (show j - 1 < l.length by omega)] at hkj
    have h0 : ¬ j = 0 := by omega
    simpa [h0] using hkj
  have h1 : leS l[j - 1] l[j] = true := List.pairwise_iff_getElem.1 h _ _ _ _ (by omega)
  have h2 : sLess l[j - 1] l[j] = true := by
    rcases (leS_iff _ _).1 h1 with h3 | h3
    · exact h3
    · exact absurd h3.symm hne
  rw [getD_lt hi', getD_lt hj']
  by_cases he : i = j - 1
  · subst he; exact h2
  · have h3 : leS l[i] l[j - 1] = true := List.pairwise_iff_getElem.1 h _ _ _ _ (by omega)
    rcases (leS_iff _ _).1 h3 with h4 | h4
    · exact sLess_trans h4 h2
    · rw [h4]; exact h2
theorem compL_sort (l : List ByteArray) : compL (l.mergeSort leS) = keysS l :=
  asc_ext (compL_asc (sortS_pw l)) (keysS_asc l) fun x => by rw [compL_mem, (List.mergeSort_perm l leS).mem_iff, keysS_mem]
def posS (k : ByteArray) (l : List ByteArray) : Nat := (l.takeWhile fun s => sLess s k).length
theorem posS_cons (k a : ByteArray) (l : List ByteArray) : posS k (a :: l) = if sLess a k = true then posS k l + 1 else 0 := by
  unfold posS
  rw [List.takeWhile_cons]
  split <;> simp
theorem posS_le (k : ByteArray) (l : List ByteArray) : posS k l ≤ l.length := List.Sublist.length_le (List.takeWhile_sublist _)
theorem posS_lt {k : ByteArray} : ∀ {l : List ByteArray} (t : Nat) (h : t < l.length), t < posS k l → sLess l[t] k = true
  | a :: l, t, h, hp => by
    rw [posS_cons] at hp
    split at hp
    · rename_i ha
      cases t with
      | zero => exact ha
      | succ t => exact posS_lt t (by simpa using h) (by omega)
    · omega
theorem posS_ge {k : ByteArray} : ∀ {l : List ByteArray} (_ : Asc l) (t : Nat) (h : t < l.length), posS k l ≤ t → sLess l[t] k = false
  | a :: l, hA, t, h, hp => by
    have hc := List.pairwise_cons.1 hA
    rw [posS_cons] at hp
    split at hp
    · cases t with
      | zero => omega
      | succ t => exact posS_ge hc.2 t (by simpa using h) (by omega)
    · rename_i ha
      cases t with
      | zero => simpa using ha
      | succ t =>
        rw [Bool.eq_false_iff]
        intro hlt
        have h1 := hc.1 _ (List.getElem_mem (by simpa using h) : l[t]'(by simpa using h) ∈ l)
        exact ha (sLess_trans h1 hlt)
theorem posS_has {k : ByteArray} : ∀ {l : List ByteArray} (_ : Asc l), (posS k l < l.length ∧ l[posS k l]? = some k) ↔ k ∈ l
  | [], _ => by simp [posS]
  | a :: l, hA => by
    have hc := List.pairwise_cons.1 hA
    rw [posS_cons]
    by_cases ha : sLess a k = true
    · rw [if_pos ha]
      have ih := posS_has (k := k) hc.2
      have hne : ¬ k = a := fun e => by rw [e, sLess_irr] at ha; cases ha
      simp only [List.length_cons, Nat.add_lt_add_iff_right, List.getElem?_cons_succ, List.mem_cons, hne, false_or]
      exact ih
    · rw [if_neg ha]
      simp only [List.length_cons, List.getElem?_cons_zero, Option.some.injEq, List.mem_cons]
      constructor
      · rintro ⟨_, e⟩; exact .inl e.symm
      · rintro (e | hm)
        · exact ⟨by omega, e.symm⟩
        · exact absurd (hc.1 k hm) ha
theorem posS_ins {k : ByteArray} : ∀ {l : List ByteArray} (_ : Asc l) (_ : ¬ k ∈ l), l.take (posS k l) ++ k :: l.drop (posS k l) = insS k l
  | [], _, _ => by simp [posS, insS]
  | a :: l, hA, hk => by
    have hc := List.pairwise_cons.1 hA
    rw [List.mem_cons, not_or] at hk
    rw [posS_cons, insS]
    rcases sLess_tri a k with h | h | h
    · rw [if_pos h, if_neg (by rw [sLess_asym h]; simp), if_neg hk.1, List.take_succ_cons, List.drop_succ_cons, List.cons_append, posS_ins hc.2 hk.2]
    · exact absurd h.symm hk.1
    · rw [if_neg (by rw [sLess_asym h]; simp), if_pos h]; rfl
end Go.Proofs.YtipokdbfdingmaaGreat

/- The iterator of slices.Values over texts. -/
namespace Go.Proofs.YtipokdbfdingmaaGreat
set_option linter.all false
open Go.RowKit Go.Shelf Go.Proofs Go
attribute [local go_sem] Oper.semAt_some
def Strs (W : World) (sv : Value) (zs : List ByteArray) : Prop :=
 (∃ A c, sv = .slice A 0 c ∧ zs = []) ∨ ∃ b off cap, sv = .slice (some ⟨b, off, none⟩) zs.length cap ∧ ∀ j, j < zs.length → W.cell? ⟨b, off + j, none⟩ = some (.string (zs[j]?.getD ⟨#[]⟩))
set_option maxRecDepth 100000 in
set_option maxHeartbeats 2000000 in
theorem vals_in (n : Nat) (hn : 1 ≤ n) (lo Bs Bo : Nat) (sv : Value) (zs : List ByteArray) (hz : zs.length ≤ 1000000) (J : Nat → World → Prop)
  (hY : ∀ j W, J j W → j < zs.length → YieldAt Fence.wide (n - 1) Tryz.prog lo #[.string (zs[j]?.getD ⟨#[]⟩)] W fun e W' => e = .returned (.bool true) ∧ J (j + 1) W')
  (hread : ∀ j W, J j W → W.cell? ⟨Bs, Bo, none⟩ = some sv ∧ Strs W sv zs) (W : World) (h0 : J 0 W) :
  CallsIn Fence.wide n Tryz.prog 93 #[.func (.yield lo) #[] #[], .pointer (some ⟨Bs, Bo, none⟩)] W fun e W' => (∃ v, e = .returned v) ∧ J zs.length W' := by
 refine callsIn_of_wp Tryz.func93 rfl trivial ?_ rfl
 simp only [Tryz.ntmps93, List.size_toArray, List.length_cons, List.length_nil, Nat.reduceAdd, Nat.reduceSub, Array.replicate_succ, Array.replicate_zero, List.push_toArray, List.append_toArray, List.nil_append, List.cons_append]
 obtain ⟨hb, hi⟩ := hread 0 W h0
 obtain ⟨A, cap, rfl⟩ : ∃ A cap, sv = .slice A zs.length cap := by
  rcases hi with ⟨A, c, rfl, rfl⟩ | ⟨b, off, cap, rfl, _⟩
  ·exact ⟨_, _, rfl⟩
  ·exact ⟨_, _, rfl⟩
 gi_wp2
 gi_loopw [4, 7] (fun _ i wr => ∃ k : Nat, k ≤ zs.length ∧ i = .int .i64 (k : Int) ∧ J k wr) (fun _ i _ => ((zs.length : Int) - intOf i).toNat)
 case atStart => exact ⟨0, Nat.zero_le _, by simp, h0⟩
 case round =>
  obtain ⟨k, hk, rfl, hJ⟩ := hrel
  by_cases hlt : k < zs.length
  ·obtain ⟨hb', hi'⟩ := hread k wr hJ
   rcases hi' with ⟨_, _, _, e⟩ | ⟨b, off, cap', e, hc⟩
   ·rw [e] at hlt; simp at hlt
   simp only [Value.slice.injEq, true_and] at e
   obtain ⟨rfl, rfl⟩ := e
   have hcx := hc k hlt
   obtain ⟨fn, tmps, assign, body, hy, hR⟩ := hY k wr hJ hlt
   have hel : zs[k]?.getD ⟨#[]⟩ = zs[k] := by simp [hlt]
   rw [hel] at hy hcx
   gi_wp2
   refine hR.mono ?_
   rintro e W3 ⟨rfl, hJ3⟩
   gi_wp2
   go_roundw
   case rel => exact ⟨k + 1, by omega, by simp, hJ3⟩
   case measure => simp [intOf]; omega
  ·obtain rfl : k = zs.length := by omega
   gi_wp2
   go_end0
   exact ⟨⟨_, rfl⟩, hJ⟩
end Go.Proofs.YtipokdbfdingmaaGreat

/- The iterator of slices.Values, as the loop's rule wants it. -/
namespace Go.Proofs.YtipokdbfdingmaaGreat
set_option linter.all false
open Go.Vc Go.Proofs Go
def RdB (l : List ByteArray) (lbs : List Value) (hd : Bool × Value × Nat × Nat) (W : World) : Prop := ∃ Bs Bo, lbs = [.pointer (some ⟨Bs, Bo, none⟩)] ∧ W.cell? ⟨Bs, Bo, none⟩ = some hd.2.1 ∧ Strs W hd.2.1 l
theorem vals_iter (l : List ByteArray) (hz : l.length ≤ 1000000) (lbs : List Value) (hd : Bool × Value × Nat × Nat) :
  IterC Tryz.prog 93 lbs.toArray l.length (fun j => #[.string (l[j]?.getD ⟨#[]⟩)]) (RdB l lbs hd) := by
 intro n hn lo J hY hrd W h0
 obtain ⟨Bs, Bo, rfl, _, _⟩ := hrd 0 W h0
 refine vals_in n hn lo Bs Bo hd.2.1 l hz J hY (fun j W h => ?_) W h0
 obtain ⟨Bs', Bo', e, h1, h2⟩ := hrd j W h
 simp only [List.cons.injEq, Value.pointer.injEq, Option.some.injEq, Addr.mk.injEq, and_true] at e
 obtain ⟨rfl, rfl⟩ := e
 exact ⟨h1, h2⟩
theorem read_box {W : World} {I : Nat → Prop} {F : List G} {k : Nat} {X : List D} {l : List ByteArray} {o : Bool} {lbs : List Value} {hd : Bool × Value × Nat × Nat} (hX : F.map T.erase = X) (hk : X[k]? = some (.box true () (.sl o () 1 (strs l))))
  (hh : ∀ g ∈ F, T.Holds W.heap I g) (hr : Rl W.heap I F (.cons (.ptr k [.d]) .nil) true lbs) (hu : hdrF F k [.d] = some hd) : RdB l lbs hd W := by
 rw [← hX, List.getElem?_map] at hk
 cases hg : F[k]? with
 | none => rw [hg] at hk; cases hk
 | some g =>
  rw [hg] at hk
  simp only [Option.map_some, Option.some.injEq] at hk
  have hhg := hh g (List.mem_of_getElem? hg)
  obtain ⟨a, x, rfl, hx⟩ : ∃ a x, g = .box true a x ∧ x.erase = .sl o () 1 (strs l) := by
   cases g <;> simp [T.erase] at hk
   rename_i o a x
   exact ⟨a, x, by rw [hk.1], hk.2⟩
  obtain ⟨v, s, rfl, hs⟩ : ∃ v s, x = .sl o v 1 s ∧ s.erase = strs l := by
   cases x <;> simp [T.erase] at hx
   rename_i o v z s
   exact ⟨v, s, by rw [hx.1, hx.2.1], hx.2.2⟩
  have hs0 := strs0_of hs
  subst hs0
  have hcs := strs0_cells l
  obtain ⟨hsl, _, hbx⟩ := hhg
  split at hbx
  case h_2 => exact hbx.elim
  rename_i y
  obtain ⟨y1, _, _, row, e, fr, r1, r2⟩ := hbx
  obtain ⟨yb, yo, ys⟩ := y
  simp only at y1
  subst y1
  obtain ⟨v1, vs', rfl, hv1, hv2⟩ := hr
  obtain ⟨b, o', hl, hv1⟩ := hv1
  have hv1 : v1 = .pointer (some ⟨b, o', none⟩) := by simpa using hv1
  have hv2 : vs' = [] := hv2
  subst hv1; subst hv2
  have hbo : b = yb ∧ o' = yo := by
   simp [locF, hg, T.loc, T.headAt] at hl
   exact ⟨hl.1.symm, hl.2.symm⟩
  obtain ⟨rfl, rfl⟩ := hbo
  have hhd : hd.2.1 = v := by
   unfold hdrF at hu
   rw [hg] at hu
   simp only [Option.bind_some, T.at_, T.hdr, Option.some.injEq] at hu
   rw [← hu]
  refine ⟨b, o', rfl, ?_, ?_⟩
  ·have := r2 0 v (by simp [T.cells])
   simp only [Nat.add_zero] at this
   simp [World.cell?, r1, this, hhd]
  ·rw [hhd]
   obtain ⟨_, _, _, hsv⟩ := hsl
   have hlen : (strs0 l).len = l.length := strs0_len l
   split at hsv
   ·rename_i n c _
    have : l = [] := List.eq_nil_of_length_eq_zero (by omega)
    exact .inl ⟨none, c, by rw [hsv.1], this⟩
   ·rename_i x n _
    obtain ⟨h1, _, h3⟩ := hsv
    subst h1
    have : l = [] := List.eq_nil_of_length_eq_zero (by omega)
    subst this
    exact .inl ⟨some x, 0, rfl, rfl⟩
   ·rename_i x n c _
    obtain ⟨h1, h2, _, _, _, row', e', fr', q1, _, _, q2⟩ := hsv
    obtain ⟨xb, xo, xs⟩ := x
    simp only at h1
    subst h1
    rw [hlen] at h2
    subst h2
    refine .inr ⟨xb, xo, c + 1, rfl, fun j hj => ?_⟩
    have := q2 j (.string l[j]) (by rw [hcs]; simp [hj])
    simp [World.cell?, q1, this, hj]
   ·exact hsv.elim
end Go.Proofs.YtipokdbfdingmaaGreat

/- The library's contracts, at this program. -/
namespace Go.Proofs.YtipokdbfdingmaaGreat
set_option linter.all false
open Go.Vc Go.Proofs Go Go.Shelf
set_option maxRecDepth 100000
def sortSRen : Ren where
  f := fun x => match x with
    | 190 => 74
    | 125 => 91
    | 258 => 90
    | 128 => 106
    | 129 => 107
    | 302 => 98
    | 303 => 99
    | 304 => 100
    | 305 => 101
    | 306 => 102
    | 307 => 103
    | 308 => 84
    | 309 => 104
    | 310 => 105
    | 333 => 109
    | 329 => 110
    | 330 => 111
    | 334 => 112
    | 335 => 113
    | 336 => 96
    | 344 => 114
    | n => n
  t := fun x => match x with
    | 31 => 33
    | 9 => 9
    | 3 => 3
    | 46 => 74
    | 0 => 0
    | 51 => 123
    | 53 => 125
    | 4 => 4
    | 183 => 117
    | 182 => 116
    | 131 => 90
    | 5 => 5
    | 218 => 126
    | 222 => 130
    | 228 => 132
    | 229 => 133
    | n => n
  g := fun n => n
theorem sortSLays : Lays.n190 Tryz.prog sortSRen where
  mixed := by kernel_rfl
  f125 := Tryz.func91.trans (congrArg some (by kernel_rfl))
  f128 := Tryz.func106.trans (congrArg some (by kernel_rfl))
  f129 := Tryz.func107.trans (congrArg some (by kernel_rfl))
  f190 := Tryz.func74.trans (congrArg some (by kernel_rfl))
  f258 := Tryz.func90.trans (congrArg some (by kernel_rfl))
  f302 := Tryz.func98.trans (congrArg some (by kernel_rfl))
  f303 := Tryz.func99.trans (congrArg some (by kernel_rfl))
  f304 := Tryz.func100.trans (congrArg some (by kernel_rfl))
  f305 := Tryz.func101.trans (congrArg some (by kernel_rfl))
  f306 := Tryz.func102.trans (congrArg some (by kernel_rfl))
  f307 := Tryz.func103.trans (congrArg some (by kernel_rfl))
  f308 := Tryz.func84.trans (congrArg some (by kernel_rfl))
  f309 := Tryz.func104.trans (congrArg some (by kernel_rfl))
  f310 := Tryz.func105.trans (congrArg some (by kernel_rfl))
  f329 := Tryz.func110.trans (congrArg some (by kernel_rfl))
  f330 := Tryz.func111.trans (congrArg some (by kernel_rfl))
  f333 := Tryz.func109.trans (congrArg some (by kernel_rfl))
  f334 := Tryz.func112.trans (congrArg some (by kernel_rfl))
  f335 := Tryz.func113.trans (congrArg some (by kernel_rfl))
  f336 := Tryz.func96.trans (congrArg some (by kernel_rfl))
  f344 := Tryz.func114.trans (congrArg some (by kernel_rfl))
  t0 := Tryz.underlying0
  a0 := Tryz.isAgg0
  z0 := Tryz.sizeOf0
  v0 := Tryz.zeroValue0
  t3 := Tryz.underlying3
  a3 := Tryz.isAgg3
  z3 := Tryz.sizeOf3
  v3 := Tryz.zeroValue3
  t4 := Tryz.underlying4
  a4 := Tryz.isAgg4
  z4 := Tryz.sizeOf4
  v4 := Tryz.zeroValue4
  t5 := Tryz.underlying5
  a5 := Tryz.isAgg5
  z5 := Tryz.sizeOf5
  v5 := Tryz.zeroValue5
  t9 := Tryz.underlying9
  a9 := Tryz.isAgg9
  z9 := Tryz.sizeOf9
  v9 := Tryz.zeroValue9
  t31 := Tryz.underlying33
  a31 := Tryz.isAgg33
  z31 := Tryz.sizeOf33
  v31 := Tryz.zeroValue33
  t46 := Tryz.underlying74
  a46 := Tryz.isAgg74
  z46 := Tryz.sizeOf74
  v46 := Tryz.zeroValue74
  t51 := Tryz.underlying123
  a51 := Tryz.isAgg123
  z51 := Tryz.sizeOf123
  v51 := Tryz.zeroValue123
  t53 := Tryz.underlying125
  a53 := Tryz.isAgg125
  z53 := Tryz.sizeOf125
  v53 := Tryz.zeroValue125
  t131 := Tryz.underlying90
  a131 := Tryz.isAgg90
  z131 := Tryz.sizeOf90
  v131 := Tryz.zeroValue90
  t182 := Tryz.underlying116
  a182 := Tryz.isAgg116
  z182 := Tryz.sizeOf116
  v182 := Tryz.zeroValue116
  t183 := Tryz.underlying117
  a183 := Tryz.isAgg117
  z183 := Tryz.sizeOf117
  v183 := Tryz.zeroValue117
  t218 := Tryz.underlying126
  a218 := Tryz.isAgg126
  z218 := Tryz.sizeOf126
  v218 := Tryz.zeroValue126
  t222 := Tryz.underlying130
  a222 := Tryz.isAgg130
  z222 := Tryz.sizeOf130
  v222 := Tryz.zeroValue130
  t228 := Tryz.underlying132
  a228 := Tryz.isAgg132
  z228 := Tryz.sizeOf132
  v228 := Tryz.zeroValue132
  t229 := Tryz.underlying133
  a229 := Tryz.isAgg133
  z229 := Tryz.sizeOf133
  v229 := Tryz.zeroValue133
def compRen : Ren where
  f := fun x => match x with
    | 194 => 78
    | n => n
  t := fun x => match x with
    | 31 => 33
    | 9 => 9
    | 3 => 3
    | 4 => 4
    | 0 => 0
    | n => n
  g := fun n => n
theorem compLays : Lays.n194 Tryz.prog compRen where
  mixed := by kernel_rfl
  f194 := Tryz.func78.trans (congrArg some (by kernel_rfl))
  t0 := Tryz.underlying0
  a0 := Tryz.isAgg0
  z0 := Tryz.sizeOf0
  v0 := Tryz.zeroValue0
  t3 := Tryz.underlying3
  a3 := Tryz.isAgg3
  z3 := Tryz.sizeOf3
  v3 := Tryz.zeroValue3
  t4 := Tryz.underlying4
  a4 := Tryz.isAgg4
  z4 := Tryz.sizeOf4
  v4 := Tryz.zeroValue4
  t9 := Tryz.underlying9
  a9 := Tryz.isAgg9
  z9 := Tryz.sizeOf9
  v9 := Tryz.zeroValue9
  t31 := Tryz.underlying33
  a31 := Tryz.isAgg33
  z31 := Tryz.sizeOf33
  v31 := Tryz.zeroValue33
def insRen : Ren where
  f := fun x => match x with
    | 22 => 60
    | 29 => 86
    | 30 => 87
    | 36 => 97
    | 17 => 108
    | n => n
  t := fun x => match x with
    | 24 => 33
    | 9 => 9
    | 3 => 3
    | 4 => 4
    | 0 => 0
    | n => n
  g := fun n => n
theorem insLays : Lays2.n22 Tryz.prog insRen where
  mixed := by kernel_rfl
  f17 := Tryz.func108.trans (congrArg some (by kernel_rfl))
  f22 := Tryz.func60.trans (congrArg some (by kernel_rfl))
  f29 := Tryz.func86.trans (congrArg some (by kernel_rfl))
  f30 := Tryz.func87.trans (congrArg some (by kernel_rfl))
  f36 := Tryz.func97.trans (congrArg some (by kernel_rfl))
  t0 := Tryz.underlying0
  a0 := Tryz.isAgg0
  z0 := Tryz.sizeOf0
  v0 := Tryz.zeroValue0
  t3 := Tryz.underlying3
  a3 := Tryz.isAgg3
  z3 := Tryz.sizeOf3
  v3 := Tryz.zeroValue3
  t4 := Tryz.underlying4
  a4 := Tryz.isAgg4
  z4 := Tryz.sizeOf4
  v4 := Tryz.zeroValue4
  t9 := Tryz.underlying9
  a9 := Tryz.isAgg9
  z9 := Tryz.sizeOf9
  v9 := Tryz.zeroValue9
  t24 := Tryz.underlying33
  a24 := Tryz.isAgg33
  z24 := Tryz.sizeOf33
  v24 := Tryz.zeroValue33
  i9 := by kernel_rfl
def binRen : Ren where
  f := fun x => match x with
    | 26 => 59
    | 33 => 84
    | 34 => 85
    | 38 => 96
    | n => n
  t := fun x => match x with
    | 24 => 33
    | 9 => 9
    | 3 => 3
    | 4 => 4
    | 40 => 74
    | 0 => 0
    | n => n
  g := fun n => n
theorem binLays : Lays2.n26 Tryz.prog binRen where
  mixed := by kernel_rfl
  f26 := Tryz.func59.trans (congrArg some (by kernel_rfl))
  f33 := Tryz.func84.trans (congrArg some (by kernel_rfl))
  f34 := Tryz.func85.trans (congrArg some (by kernel_rfl))
  f38 := Tryz.func96.trans (congrArg some (by kernel_rfl))
  t0 := Tryz.underlying0
  a0 := Tryz.isAgg0
  z0 := Tryz.sizeOf0
  v0 := Tryz.zeroValue0
  t3 := Tryz.underlying3
  a3 := Tryz.isAgg3
  z3 := Tryz.sizeOf3
  v3 := Tryz.zeroValue3
  t4 := Tryz.underlying4
  a4 := Tryz.isAgg4
  z4 := Tryz.sizeOf4
  v4 := Tryz.zeroValue4
  t9 := Tryz.underlying9
  a9 := Tryz.isAgg9
  z9 := Tryz.sizeOf9
  v9 := Tryz.zeroValue9
  t24 := Tryz.underlying33
  a24 := Tryz.isAgg33
  z24 := Tryz.sizeOf33
  v24 := Tryz.zeroValue33
  t40 := Tryz.underlying74
  a40 := Tryz.isAgg74
  z40 := Tryz.sizeOf74
  v40 := Tryz.zeroValue74
def clRen : Ren where
  f := fun x => match x with
    | 5 => 25
    | 7 => 57
    | n => n
  t := fun x => match x with
    | 23 => 57
    | 25 => 9
    | 3 => 3
    | 4 => 4
    | 20 => 20
    | n => n
  g := fun n => n
theorem clLays : SlLaysW.n5 Tryz.prog clRen where
  mixed := by kernel_rfl
  f5 := ⟨Tryz.f25.name, by decide, Tryz.func25.trans (congrArg some (by kernel_rfl))⟩
  f7 := Tryz.func57.trans (congrArg some (by kernel_rfl))
  t4 := Tryz.underlying4
  a4 := Tryz.isAgg4
  z4 := Tryz.sizeOf4
  v4 := Tryz.zeroValue4
  t20 := Tryz.underlying20
  a20 := Tryz.isAgg20
  z20 := Tryz.sizeOf20
  v20 := Tryz.zeroValue20
  t23 := Tryz.underlying57
  a23 := Tryz.isAgg57
  z23 := Tryz.sizeOf57
  v23 := Tryz.zeroValue57
def kbRen : Ren where
  f := fun x => match x with
    | 7 => 70
    | 10 => 88
    | n => n
  t := fun x => match x with
    | 23 => 100
    | 26 => 9
    | 3 => 4
    | 28 => 77
    | 0 => 0
    | 27 => 76
    | 33 => 86
    | 4 => 4
    | n => n
  g := fun n => n
theorem kbLays : SlLaysZ.n7 Tryz.prog kbRen where
  mixed := by kernel_rfl
  f7 := ⟨Tryz.f70.name, by decide, Tryz.func70.trans (congrArg some (by kernel_rfl))⟩
  f10 := ⟨Tryz.f88.name, by decide, Tryz.func88.trans (congrArg some (by kernel_rfl))⟩
  t0 := Tryz.underlying0
  a0 := Tryz.isAgg0
  z0 := Tryz.sizeOf0
  v0 := Tryz.zeroValue0
  t4 := Tryz.underlying4
  a4 := Tryz.isAgg4
  z4 := Tryz.sizeOf4
  v4 := Tryz.zeroValue4
  t23 := Tryz.underlying100
  a23 := Tryz.isAgg100
  z23 := Tryz.sizeOf100
  v23 := Tryz.zeroValue100
  t26 := Tryz.underlying9
  a26 := Tryz.isAgg9
  z26 := Tryz.sizeOf9
  v26 := Tryz.zeroValue9
  t27 := Tryz.underlying76
  a27 := Tryz.isAgg76
  z27 := Tryz.sizeOf76
  v27 := Tryz.zeroValue76
  t28 := Tryz.underlying77
  a28 := Tryz.isAgg77
  z28 := Tryz.sizeOf77
  v28 := Tryz.zeroValue77
  t33 := Tryz.underlying86
  a33 := Tryz.isAgg86
  z33 := Tryz.sizeOf86
  v33 := Tryz.zeroValue86
def kiRen : Ren where
  f := fun x => match x with
    | 7 => 49
    | 10 => 75
    | n => n
  t := fun x => match x with
    | 23 => 57
    | 26 => 9
    | 3 => 3
    | 28 => 77
    | 0 => 0
    | 27 => 76
    | 33 => 86
    | 4 => 4
    | n => n
  g := fun n => n
theorem kiLays : SlLaysZ.n7 Tryz.prog kiRen where
  mixed := by kernel_rfl
  f7 := ⟨Tryz.f49.name, by decide, Tryz.func49.trans (congrArg some (by kernel_rfl))⟩
  f10 := ⟨Tryz.f75.name, by decide, Tryz.func75.trans (congrArg some (by kernel_rfl))⟩
  t0 := Tryz.underlying0
  a0 := Tryz.isAgg0
  z0 := Tryz.sizeOf0
  v0 := Tryz.zeroValue0
  t4 := Tryz.underlying4
  a4 := Tryz.isAgg4
  z4 := Tryz.sizeOf4
  v4 := Tryz.zeroValue4
  t23 := Tryz.underlying57
  a23 := Tryz.isAgg57
  z23 := Tryz.sizeOf57
  v23 := Tryz.zeroValue57
  t26 := Tryz.underlying9
  a26 := Tryz.isAgg9
  z26 := Tryz.sizeOf9
  v26 := Tryz.zeroValue9
  t27 := Tryz.underlying76
  a27 := Tryz.isAgg76
  z27 := Tryz.sizeOf76
  v27 := Tryz.zeroValue76
  t28 := Tryz.underlying77
  a28 := Tryz.isAgg77
  z28 := Tryz.sizeOf77
  v28 := Tryz.zeroValue77
  t33 := Tryz.underlying86
  a33 := Tryz.isAgg86
  z33 := Tryz.sizeOf86
  v33 := Tryz.zeroValue86
def sdRen : Ren where
  f := fun x => match x with
    | 6 => 48
    | 8 => 73
    | 9 => 74
    | 11 => 89
    | 13 => 91
    | 12 => 90
    | 23 => 106
    | 24 => 107
    | 14 => 98
    | 15 => 99
    | 16 => 100
    | 17 => 101
    | 18 => 102
    | 19 => 103
    | 20 => 84
    | 21 => 104
    | 22 => 105
    | 25 => 109
    | 26 => 110
    | 27 => 111
    | 28 => 112
    | 29 => 113
    | 30 => 96
    | 31 => 114
    | n => n
  t := fun x => match x with
    | 26 => 9
    | 28 => 77
    | 24 => 33
    | 0 => 0
    | 3 => 3
    | 37 => 74
    | 48 => 123
    | 50 => 125
    | 4 => 4
    | 40 => 117
    | 39 => 116
    | 45 => 90
    | 5 => 5
    | 9 => 9
    | 51 => 126
    | 55 => 130
    | 57 => 132
    | 58 => 133
    | 33 => 86
    | n => n
  g := fun n => n
theorem sdLays : SlLaysZ.n6 Tryz.prog sdRen where
  mixed := by kernel_rfl
  f6 := ⟨Tryz.f48.name, by decide, Tryz.func48.trans (congrArg some (by kernel_rfl))⟩
  f8 := ⟨Tryz.f73.name, by decide, Tryz.func73.trans (congrArg some (by kernel_rfl))⟩
  f11 := ⟨Tryz.f89.name, by decide, Tryz.func89.trans (congrArg some (by kernel_rfl))⟩
  t0 := Tryz.underlying0
  a0 := Tryz.isAgg0
  z0 := Tryz.sizeOf0
  v0 := Tryz.zeroValue0
  t24 := Tryz.underlying33
  a24 := Tryz.isAgg33
  z24 := Tryz.sizeOf33
  v24 := Tryz.zeroValue33
  t26 := Tryz.underlying9
  a26 := Tryz.isAgg9
  z26 := Tryz.sizeOf9
  v26 := Tryz.zeroValue9
  t28 := Tryz.underlying77
  a28 := Tryz.isAgg77
  z28 := Tryz.sizeOf77
  v28 := Tryz.zeroValue77
  i26 := by kernel_rfl
def soRen : Ren where
  f := fun x => match x with
    | 6 => 74
    | 8 => 91
    | 9 => 90
    | 19 => 106
    | 20 => 107
    | 21 => 98
    | 22 => 99
    | 23 => 100
    | 24 => 101
    | 25 => 102
    | 26 => 103
    | 27 => 84
    | 28 => 104
    | 29 => 105
    | 36 => 109
    | 31 => 110
    | 32 => 111
    | 37 => 112
    | 38 => 113
    | 39 => 96
    | 41 => 114
    | n => n
  t := fun x => match x with
    | 27 => 33
    | 29 => 9
    | 3 => 3
    | 32 => 74
    | 26 => 33
    | 0 => 0
    | 44 => 123
    | 46 => 125
    | 4 => 4
    | 36 => 117
    | 35 => 116
    | 41 => 90
    | 5 => 5
    | 9 => 9
    | 53 => 126
    | 57 => 130
    | 63 => 132
    | 64 => 133
    | n => n
  g := fun n => n
theorem soLays : SlLaysM.n6 Tryz.prog soRen where
  mixed := by kernel_rfl
  f6 := ⟨Tryz.f74.name, by decide, Tryz.func74.trans (congrArg some (by kernel_rfl))⟩
  f8 := Tryz.func91.trans (congrArg some (by kernel_rfl))
  f9 := ⟨Tryz.f90.name, by decide, Tryz.func90.trans (congrArg some (by kernel_rfl))⟩
  f19 := Tryz.func106.trans (congrArg some (by kernel_rfl))
  f20 := Tryz.func107.trans (congrArg some (by kernel_rfl))
  f21 := ⟨Tryz.f98.name, by decide, Tryz.func98.trans (congrArg some (by kernel_rfl))⟩
  f22 := ⟨Tryz.f99.name, by decide, Tryz.func99.trans (congrArg some (by kernel_rfl))⟩
  f23 := ⟨Tryz.f100.name, by decide, Tryz.func100.trans (congrArg some (by kernel_rfl))⟩
  f24 := ⟨Tryz.f101.name, by decide, Tryz.func101.trans (congrArg some (by kernel_rfl))⟩
  f25 := ⟨Tryz.f102.name, by decide, Tryz.func102.trans (congrArg some (by kernel_rfl))⟩
  f26 := ⟨Tryz.f103.name, by decide, Tryz.func103.trans (congrArg some (by kernel_rfl))⟩
  f27 := ⟨Tryz.f84.name, by decide, Tryz.func84.trans (congrArg some (by kernel_rfl))⟩
  f28 := ⟨Tryz.f104.name, by decide, Tryz.func104.trans (congrArg some (by kernel_rfl))⟩
  f29 := ⟨Tryz.f105.name, by decide, Tryz.func105.trans (congrArg some (by kernel_rfl))⟩
  f31 := Tryz.func110.trans (congrArg some (by kernel_rfl))
  f32 := Tryz.func111.trans (congrArg some (by kernel_rfl))
  f36 := ⟨Tryz.f109.name, by decide, Tryz.func109.trans (congrArg some (by kernel_rfl))⟩
  f37 := ⟨Tryz.f112.name, by decide, Tryz.func112.trans (congrArg some (by kernel_rfl))⟩
  f38 := ⟨Tryz.f113.name, by decide, Tryz.func113.trans (congrArg some (by kernel_rfl))⟩
  f39 := ⟨Tryz.f96.name, by decide, Tryz.func96.trans (congrArg some (by kernel_rfl))⟩
  f41 := ⟨Tryz.f114.name, by decide, Tryz.func114.trans (congrArg some (by kernel_rfl))⟩
  t0 := Tryz.underlying0
  a0 := Tryz.isAgg0
  z0 := Tryz.sizeOf0
  v0 := Tryz.zeroValue0
  t3 := Tryz.underlying3
  a3 := Tryz.isAgg3
  z3 := Tryz.sizeOf3
  v3 := Tryz.zeroValue3
  t4 := Tryz.underlying4
  a4 := Tryz.isAgg4
  z4 := Tryz.sizeOf4
  v4 := Tryz.zeroValue4
  t5 := Tryz.underlying5
  a5 := Tryz.isAgg5
  z5 := Tryz.sizeOf5
  v5 := Tryz.zeroValue5
  t9 := Tryz.underlying9
  a9 := Tryz.isAgg9
  z9 := Tryz.sizeOf9
  v9 := Tryz.zeroValue9
  t26 := Tryz.underlying33
  a26 := Tryz.isAgg33
  z26 := Tryz.sizeOf33
  v26 := Tryz.zeroValue33
  t27 := Tryz.underlying33
  a27 := Tryz.isAgg33
  z27 := Tryz.sizeOf33
  v27 := Tryz.zeroValue33
  t29 := Tryz.underlying9
  a29 := Tryz.isAgg9
  z29 := Tryz.sizeOf9
  v29 := Tryz.zeroValue9
  t32 := Tryz.underlying74
  a32 := Tryz.isAgg74
  z32 := Tryz.sizeOf74
  v32 := Tryz.zeroValue74
  t35 := Tryz.underlying116
  a35 := Tryz.isAgg116
  z35 := Tryz.sizeOf116
  v35 := Tryz.zeroValue116
  t36 := Tryz.underlying117
  a36 := Tryz.isAgg117
  z36 := Tryz.sizeOf117
  v36 := Tryz.zeroValue117
  t41 := Tryz.underlying90
  a41 := Tryz.isAgg90
  z41 := Tryz.sizeOf90
  v41 := Tryz.zeroValue90
  t44 := Tryz.underlying123
  a44 := Tryz.isAgg123
  z44 := Tryz.sizeOf123
  v44 := Tryz.zeroValue123
  t46 := Tryz.underlying125
  a46 := Tryz.isAgg125
  z46 := Tryz.sizeOf125
  v46 := Tryz.zeroValue125
  t53 := Tryz.underlying126
  a53 := Tryz.isAgg126
  z53 := Tryz.sizeOf126
  v53 := Tryz.zeroValue126
  t57 := Tryz.underlying130
  a57 := Tryz.isAgg130
  z57 := Tryz.sizeOf130
  v57 := Tryz.zeroValue130
  t63 := Tryz.underlying132
  a63 := Tryz.isAgg132
  z63 := Tryz.sizeOf132
  v63 := Tryz.zeroValue132
  t64 := Tryz.underlying133
  a64 := Tryz.isAgg133
  z64 := Tryz.sizeOf133
  v64 := Tryz.zeroValue133
end Go.Proofs.YtipokdbfdingmaaGreat

/- The library's lists of texts and maps, at this program. -/
namespace Go.Proofs.YtipokdbfdingmaaGreat
set_option linter.all false
open Go.Vc Go.Proofs Go Go.Shelf
set_option linter.unusedSimpArgs false
set_option linter.unusedVariables false
set_option maxRecDepth 100000
set_option maxHeartbeats 4000000
attribute [local irreducible] CallW EqK
theorem sort_ok (l : List ByteArray) (ex : Bool) (h0 : 0 < l.length) (hl : l.length ≤ 1000000000) : Meets Tryz.prog 74 [.sl true () 1 (strs l)] (.cons (.sub 0 [] 0 l.length ex) .nil)
  fun av X κ => av = .tup .nil ∧ X = [.sl true () 1 (strs (l.mergeSort leS))] ∧ κ = [(0, [.i 0])] :=
 Meets.sortStrs sortSLays ⟨_, Tryz.func74, by kernel_rfl, by kernel_rfl⟩ l ex h0 hl
theorem comp_ok (l : List ByteArray) (ex : Bool) (h0 : 0 < l.length) (hl : l.length ≤ 1000000000) : Meets Tryz.prog 78 [.sl true () 1 (strs l)] (.cons (.sub 0 [] 0 l.length ex) .nil)
  fun av X κ => av = .sub 0 [] 0 (compL l).length false ∧ X = [.sl true () 1 (strs (compL l ++ List.replicate (l.length - (compL l).length) ⟨#[]⟩))] ∧ κ = [(0, [.i 0])] :=
 Meets.compactStrs compLays ⟨_, Tryz.func78, by kernel_rfl, by kernel_rfl⟩ l (compL l) (compact_compL l) ex h0 hl
theorem ins_ok (l : List ByteArray) (k : ByteArray) (hA : Asc l) (hk : ¬ k ∈ l) (hl : l.length ≤ 1000000) : Meets Tryz.prog 60 [.sl true () 1 (strs l), .sl true () 1 (strs [k])] (.cons (.sub 0 [] 0 l.length false) (.cons (.val (.int .i64 (posS k l : Nat))) (.cons (.sub 1 [] 0 1 true) .nil)))
  fun av X κ => av = .sub 2 [] 0 (l.length + 1) false ∧ X = [.junk (), .sl true () 1 (strs [k]), .sl true () 1 (strs (insS k l))] ∧ κ = [(0, [])] := by
 have h := Meets.insertStr insLays ⟨_, Tryz.func60, by kernel_rfl, by kernel_rfl⟩ l k (posS k l) (posS_le k l) hl
 rw [posS_ins hA hk] at h
 exact h
theorem bin_ok (l : List ByteArray) (k : ByteArray) (hA : Asc l) (ex : Bool) (hl : l.length ≤ 1000000) : Meets Tryz.prog 59 [] (.cons (.imm 1 (strs l) ex) (.cons (.val (.string k)) .nil))
  fun av X κ => av = .tup (.cons (.val (.int .i64 (posS k l : Nat))) (.cons (.val (.bool (hasS l k))) .nil)) ∧ X = [] ∧ κ = [] := by
 have h := Meets.searchStr binLays ⟨_, Tryz.func59, by kernel_rfl, by kernel_rfl⟩ l k ex hl (posS k l) (posS_le k l) (fun t ht hp => posS_lt t ht hp) (fun t ht hp => posS_ge hA t ht hp) (sLess_irr k)
 have e : decide (posS k l < l.length ∧ l[posS k l]? = some k) = hasS l k := by
  rw [Bool.eq_iff_iff, decide_eq_true_eq, hasS_iff]; exact posS_has hA
 rw [e] at h
 exact h
theorem bin_c (l : List ByteArray) (k : ByteArray) (hA : Asc l) (ex : Bool) (hl : l.length ≤ 1000000) : Meets Tryz.prog 59 [.sl true () 1 (strs l)] (.cons (.sub 0 [] 0 l.length ex) (.cons (.val (.string k)) .nil))
  fun av X κ => av = .tup (.cons (.val (.int .i64 (posS k l : Nat))) (.cons (.val (.bool (hasS l k))) .nil)) ∧ X = [.sl true () 1 (strs l)] ∧ κ = [] :=
 warmL (bin_ok l k hA ex hl) (by simp [AV.chilled]) rfl (fun _ h => by cases h) rfl
theorem cloneM_ok (m : D) (hm : m.free = true) : Meets Tryz.prog 25 [.map true () m] (.cons (.mp 0 []) .nil) fun av X κ => av = .mp 1 [] ∧ X = [.map true () m, .map true () m] ∧ κ = [] :=
 Meets.cloneMap clLays ⟨_, Tryz.func25, by kernel_rfl, by kernel_rfl⟩ m hm
theorem sorts5 (m : Nat) : AnyZ.SortsIn Tryz.prog sdRen Fence.wide m :=
 ⟨fun blk off cap ss W hH hblk hsz => callsIn_wide.2 (AnyM.slices_Sort_string soLays blk off cap ss W hH hblk hsz), fun p cap W => callsIn_wide.2 (AnyM.slices_Sort_string_none soLays p cap W)⟩
theorem keysB_ok (m : D) : MeetsQ Tryz.prog 70 [.map true () m] (.cons (.mp 0 []) .nil) fun av X κ pl => av = .fn 88 (.cons (.ptr 1 [.d]) .nil) ∧ X = [.map true () m, .box true () (.junk ())] ∧ κ = [] ∧ pl = [(1, [.d], .mp 0 [])] :=
 MeetsQ.mapsKeys kbLays ⟨_, Tryz.func70, by kernel_rfl, by kernel_rfl⟩ m
theorem keysI_ok (m : D) : MeetsQ Tryz.prog 49 [.map true () m] (.cons (.mp 0 []) .nil) fun av X κ pl => av = .fn 75 (.cons (.ptr 1 [.d]) .nil) ∧ X = [.map true () m, .box true () (.junk ())] ∧ κ = [] ∧ pl = [(1, [.d], .mp 0 [])] :=
 MeetsQ.mapsKeys kiLays ⟨_, Tryz.func49, by kernel_rfl, by kernel_rfl⟩ m
theorem sortedB_ok (m : D) (ks : List ByteArray) (hks : keysAre m ks) (hsz : ∀ k ∈ ks, k.size ≤ maxLen) (hl : ks.length ≤ 1000000) (hn : ks.Nodup) :
  MeetsP Tryz.prog 48 [.map true () m, .box true () (.junk ())] [(1, [.d], .mp 0 [])] (.cons (.fn 88 (.cons (.ptr 1 [.d]) .nil)) .nil)
   fun av X κ => av = .sub 2 [] 0 ks.length false ∧ X = [.map true () m, .box true () (.junk ()), .sl true () 1 (strs (keysS ks))] ∧ κ = [] := by
 have h := MeetsP.sortedKeys (ρk := kbRen) { kbLays with } sdLays ⟨_, Tryz.func48, by kernel_rfl, by kernel_rfl⟩ sorts5 (enters_of Tryz.func74 (by kernel_rfl) rfl) (enters_of Tryz.func88 (by kernel_rfl) rfl) m ks hks hsz hl
 rw [leB_eq, sortS_keys hn] at h
 exact h
theorem sortedI_ok (m : D) (ks : List ByteArray) (hks : keysAre m ks) (hsz : ∀ k ∈ ks, k.size ≤ maxLen) (hl : ks.length ≤ 1000000) (hn : ks.Nodup) :
  MeetsP Tryz.prog 48 [.map true () m, .box true () (.junk ())] [(1, [.d], .mp 0 [])] (.cons (.fn 75 (.cons (.ptr 1 [.d]) .nil)) .nil)
   fun av X κ => av = .sub 2 [] 0 ks.length false ∧ X = [.map true () m, .box true () (.junk ()), .sl true () 1 (strs (keysS ks))] ∧ κ = [] := by
 have h := MeetsP.sortedKeys (ρk := kiRen) { kiLays with } sdLays ⟨_, Tryz.func48, by kernel_rfl, by kernel_rfl⟩ sorts5 (enters_of Tryz.func74 (by kernel_rfl) rfl) (enters_of Tryz.func75 (by kernel_rfl) rfl) m ks hks hsz hl
 rw [leB_eq, sortS_keys hn] at h
 exact h
def dLB (o : Bool) (l : List ByteArray) : D := .box true () (.sl o () 1 (strs l))
@[simp high] theorem head_dLB (o : Bool) (l : List ByteArray) : isHead (dLB o l) = true := by rw [dLB, isHead]
theorem values_ok (ex : Bool) (l : List ByteArray) : Meets Tryz.prog 79 [] (.cons (.imm 1 (strs l) ex) .nil)
  fun av X κ => av = .fn 93 (.cons (.ptr 0 [.d]) .nil) ∧ X = [dLB false l] ∧ κ = [] := by
 refine fb Tryz.func79 Tryz.ntmps79 [.tmp 2] fun w0 I0 F0 hF => ?_
 repeat first|refine n1 ?_|((first|refine rg 0 [0] [1] [] ?_|refine rg 1 [1] [2] [] ?_);simp (maxSteps := 1000000) [hF])
 (try refine nr ?_);(repeat first|refine nb_ ?_|refine nl_ ?_);refine endK.o [2] [0] [] ?_;simp [hF, retK, covers, mpre, dLB]
theorem appendSeq_ok (o : Bool) (l : List ByteArray) (hl : l.length ≤ 1000000) : Meets Tryz.prog 89 [dLB o l] (.cons (.nils 1) (.cons (.fn 93 (.cons (.ptr 0 [.d]) .nil)) .nil))
  fun av X κ => av = .sub 1 [] 0 l.length false ∧ X = [dLB o l, .sl true () 1 (strs l)] ∧ κ = [] := by
 refine Meets.of_vsI tabOk Tryz.func89 (body := ?_) ?_ (by kernel_rfl) Tryz.ntmps89 (rs := [.tmp 4]) (by kernel_rfl) rfl (by simp [AV.len]) (by simp only [envOf]; exact rfl) ?_
 rotate_left
 ·rfl
 intro w0 I0 F0 hF hI
 repeat first|refine n1 ?_|refine n3 ?_|((first|refine rg 0 [0, 1, 5, 6, 7] [1, 2, 5, 6, 7] [] ?_|refine rg 1 [1, 2, 5, 6, 7] [2, 5, 6, 7] [] ?_);simp (maxSteps := 1000000) [hF, dLB])
 refine VS.pick [2, 6] [0, 1] (by simp [hF]) ?_;simp [hF]
 refine VS.rangeFunc1 hI (gf := 93) (s := .cons (.ptr 0 [.d]) .nil) rfl (by exact ⟨_, Tryz.func93, by rfl, by rfl⟩) l.length (fun j => .string (l[j]?.getD ⟨#[]⟩)) (fun _ => rfl) (by show 7 < 13; decide)
  (fun j => [.box true () (.sl o () 1 (strs l)), .box true () (.sl true () 1 (strs (l.take j)))]) (by simp)
  (fun j => [(2, .ptr 1 [.d]), (5, avStr (l[j]?.getD ⟨#[]⟩)), (6, .fn 93 (.cons (.ptr 0 [.d]) .nil))])
  0 ⟨_, o, 1, strs l, rfl, rfl⟩ (RdB l) (vals_iter l hl) (fun j W I F lbs hd hX hh hr hu => read_box hX rfl hh hr hu) ?_ ?_ ?_
 ·intro j hj w0' I0' F0' hF1
  simp only [List.length_cons, List.length_nil, Nat.reduceAdd] at hF1
  refine VI.regionPick (c := ⟨Tryz.prog, 13, w0', I0', F0'⟩) tabOk [2, 5, 6] [0, 1] [] (by kernel_rfl) ?_
  simp (maxSteps := 1000000) [hF1]
 ·intro j hj w0' I0' F0' hF1
  simp only [List.length_cons, List.length_nil, Nat.reduceAdd] at hF1
  have c1 : (j + 1) * 16 ≤ 140737488355328 := by omega
  have c2 : j ≤ 9223372036854775806 := by omega
  have hT : l.take (j + 1) = l.take j ++ [l[j]?.getD ⟨#[]⟩] := by rw [take_succ_at hj, List.getElem?_eq_getElem hj]; rfl
  have hL : (l.take j).length = j := by simp; omega
  have hmin : min j l.length = j := by omega
  have hmd : (strs (l.take j)).mid 0 j = strs (l.take j) := by have := strs_mid_all (l.take j); rwa [hL] at this
  have hmd1 : ∀ n, (strs (l.take j ++ [n])).mid 0 (j + 1) = strs (l.take j ++ [n]) := fun n => by have := strs_mid1 (l.take j) n; rwa [hL] at this
  refine VI.block ?_
  refine VI.lift (c := ⟨Tryz.prog, 13, w0', I0', F0'⟩) 1 [.d] (by simp) (by simp [St.tree]) (by simp [St.tree]) (by simp [St.tree]) ?_
  refine VI.regionPick (c := ⟨Tryz.prog, 13, w0', I0', F0'⟩) tabOk [2, 5, 6] [0, 1] [] (by kernel_rfl) ?_
  have hFz : F0.length = 1 := hF
  simp (maxSteps := 1000000) [hF1, hL, hmin, hmd, hmd1, hT, c1, c2]
  exact fun k q => ⟨fun hk h1 => by omega, fun hk h1 => by omega⟩
 ·dsimp only
  rw [List.take_length]
  repeat first|refine n1 ?_|refine n4 ?_
  refine ghostL 1 [.d] ?_;simp (maxSteps := 1000000) [hF, St.lift, AV.lift, liftPl, stripP, nodeAV, isNode]
  repeat first|(refine rg 4 [2] [4] [] ?_;simp (maxSteps := 1000000) [hF])
  (try refine nr ?_);(repeat first|refine nb_ ?_|refine nl_ ?_);refine endK.o [4] [0, 2] [] ?_;simp [hF, retK, covers, mpre, dLB]
theorem collect_ok (o : Bool) (l : List ByteArray) (hl : l.length ≤ 1000000) : Meets Tryz.prog 73 [dLB o l] (.cons (.fn 93 (.cons (.ptr 0 [.d]) .nil)) .nil)
  fun av X κ => av = .sub 1 [] 0 l.length false ∧ X = [dLB o l, .sl true () 1 (strs l)] ∧ κ = [] := by
 refine fb Tryz.func73 Tryz.ntmps73 [.tmp 2] fun w0 I0 F0 hF => ?_
 repeat first|refine n1 ?_|((first|refine rg 0 [0] [0] [] ?_|refine rg 1 [0] [2] [] ?_);simp (maxSteps := 1000000) [hF])
 refine (appendSeq_ok o l hl).go [(0, [])] (by simp (maxSteps := 1000000) [hF, dLB]) ?_;rintro av X κ ⟨rfl, rfl, rfl⟩;simp (maxSteps := 1000000) [hF, dLB]
 (try refine nr ?_);(repeat first|refine nb_ ?_|refine nl_ ?_);refine endK.o [2] [0, 1] [] ?_;simp [hF, retK, covers, mpre, dLB]
theorem sorted_ok (o : Bool) (l : List ByteArray) (h0 : 0 < l.length) (hl : l.length ≤ 1000000) : Meets Tryz.prog 48 [dLB o l] (.cons (.fn 93 (.cons (.ptr 0 [.d]) .nil)) .nil)
  fun av X κ => av = .sub 1 [] 0 l.length false ∧ X = [dLB o l, .sl true () 1 (strs (l.mergeSort leS))] ∧ κ = [] := by
 refine fb Tryz.func48 Tryz.ntmps48 [.tmp 2] fun w0 I0 F0 hF => ?_
 repeat first|refine n1 ?_|((first|refine rg 0 [0] [0] [] ?_|refine rg 1 [0] [3] [] ?_);simp (maxSteps := 1000000) [hF])
 refine (collect_ok o l hl).go [(0, [])] (by simp (maxSteps := 1000000) [hF, dLB]) ?_;rintro av X κ ⟨rfl, rfl, rfl⟩;simp (maxSteps := 1000000) [hF, dLB]
 repeat first|refine n1 ?_|(refine rg 2 [3] [3] [] ?_;simp (maxSteps := 1000000) [hF])
 refine (sort_ok l false h0 (by omega)).go [(1, [])] (by simp (maxSteps := 1000000) [hF, dLB]) ?_;rintro av X κ ⟨rfl, rfl, rfl⟩;simp (maxSteps := 1000000) [hF, dLB]
 repeat first|refine n1 ?_|(refine rg 3 [3] [2] [] ?_;simp (maxSteps := 1000000) [hF])
 (try refine nr ?_);(repeat first|refine nb_ ?_|refine nl_ ?_);refine endK.o [2] [0, 1] [] ?_;simp [hF, retK, covers, mpre, dLB]
theorem keysOf_ok (ex : Bool) (l : List ByteArray) (h0 : 0 < l.length) (hl : l.length ≤ 100000) : Meets Tryz.prog 50 [] (.cons (.imm 1 (strs l) ex) .nil)
  fun av X κ => (keysE l = 6 ∧ av = .tup (.cons (.nils 1) (.cons (avInt 6) (.cons (avInt 0) .nil))) ∧ X = [] ∧ κ = []) ∨ (keysE l = 9 ∧ av = .tup (.cons (.nils 1) (.cons (avInt 0) (.cons (avInt 9) .nil))) ∧ X = [] ∧ κ = []) ∨
   (keysE l = 0 ∧ ∃ z, av = .tup (.cons (.sub 0 [] 0 (keysS l).length false) (.cons (avInt 0) (.cons (avInt 0) .nil))) ∧ X = [.sl true () 1 (strs (keysS l ++ z))] ∧ κ = []) := by
 by_cases ha : l.all isKeyB = true
 ·have hc : compL (l.mergeSort leS) = keysS l := compL_sort l
  have hkl := keysS_len l
  have hsl : (l.mergeSort leS).length = l.length := List.length_mergeSort l
  refine fb Tryz.func50 Tryz.ntmps50 [.tmp 2, .tmp 3, .tmp 4] fun w0 I0 F0 hF => ?_
  repeat first|refine n1 ?_|((first|refine rg 0 [0] [0] [] ?_|refine rg 1 [0] [0, 7] [] ?_);simp (maxSteps := 1000000) [hF])
  refine (containsFunc_ok ex l (by omega)).go [] (by simp (maxSteps := 1000000) [hF, ha]) ?_;rintro av X κ ⟨rfl, rfl, rfl⟩;simp (maxSteps := 1000000) [hF, ha]
  repeat first|refine n1 ?_|refine n2 ?_|((first|refine rg 3 [0] [5] [] ?_|refine nc ?_);simp (maxSteps := 1000000) [hF, ha])
  refine (values_ok ex l).go [] (by simp (maxSteps := 1000000) [hF, ha, dLB]) ?_;rintro av X κ ⟨rfl, rfl, rfl⟩;simp (maxSteps := 1000000) [hF, ha, dLB]
  refine (sorted_ok false l h0 (by omega)).go [(0, [])] (by simp (maxSteps := 1000000) [hF, dLB]) ?_;rintro av X κ ⟨rfl, rfl, rfl⟩;simp (maxSteps := 1000000) [hF, dLB]
  refine (comp_ok (l.mergeSort leS) false (by omega) (by omega)).go [(1, [])] (by simp (maxSteps := 1000000) [hF, hc, hsl]) ?_;rintro av X κ ⟨rfl, rfl, rfl⟩;simp (maxSteps := 1000000) [hF, hc, hsl]
  by_cases hb : 30 < (keysS l).length
  ·have he : keysE l = 9 := by simp [keysE, ha, hb]
   have hbi : (30 : Int) < (keysS l).length := by omega
   repeat first|refine n1 ?_|((first|refine rg 4 [5] [5, 14] [] ?_|refine rg 5 [] [2, 3, 4] [] ?_|refine nc ?_);simp (maxSteps := 1000000) [hF, hb, hbi])
   (try refine nr ?_);(repeat first|refine nb_ ?_|refine nl_ ?_);refine endK.o [2, 3, 4] [] [] ?_;simp [hF, retK, covers, mpre, he]
  ·have he : keysE l = 0 := by simp [keysE, ha, hb]
   have hbi : ¬ (30 : Int) < (keysS l).length := by omega
   repeat first|refine n1 ?_|refine n2 ?_|((first|refine rg 4 [5] [5, 14] [] ?_|refine rg 6 [5] [2, 3, 4] [] ?_|refine nc ?_);simp (maxSteps := 1000000) [hF, hb, hbi])
   (try refine nr ?_);(repeat first|refine nb_ ?_|refine nl_ ?_);refine endK.o [2, 3, 4] [1] [] ?_;simp [hF, retK, covers, mpre, he]
   exact ⟨_, rfl⟩
 ·have he : keysE l = 6 := by simp [keysE, ha]
  refine fb Tryz.func50 Tryz.ntmps50 [.tmp 2, .tmp 3, .tmp 4] fun w0 I0 F0 hF => ?_
  repeat first|refine n1 ?_|((first|refine rg 0 [0] [0] [] ?_|refine rg 1 [0] [0, 7] [] ?_);simp (maxSteps := 1000000) [hF])
  refine (containsFunc_ok ex l (by omega)).go [] (by simp (maxSteps := 1000000) [hF, ha]) ?_;rintro av X κ ⟨rfl, rfl, rfl⟩;simp (maxSteps := 1000000) [hF, ha]
  repeat first|refine n1 ?_|((first|refine rg 2 [] [2, 3, 4] [] ?_|refine nc ?_);simp (maxSteps := 1000000) [hF, ha])
  (try refine nr ?_);(repeat first|refine nb_ ?_|refine nl_ ?_);refine endK.o [2, 3, 4] [] [] ?_;simp [hF, retK, covers, mpre, he]
end Go.Proofs.YtipokdbfdingmaaGreat

/- Books of grounds, plainly: keys are keys. -/
namespace Go.Proofs.YtipokdbfdingmaaGreat
set_option linter.all false
open Go.Vc Go.Proofs
structure Nk (g : Gb) : Prop where
  keys : ∀ u ∈ g.units, ∀ k ∈ u.keys, isKeyB k = true
  ser : ∀ p ∈ g.ser, isKeyB p.1 = true
theorem keysE_all {l : List ByteArray} (h : keysE l = 0) : ∀ k ∈ keysS l, isKeyB k = true := fun k hk => List.all_eq_true.1 (keysE_ok h).2 k (keysS_mem.1 hk)
theorem n_unit {g : Gb} (b : Nk g) (l : List ByteArray) : Nk (unitOf g l).1 := by
  unfold unitOf
  split
  · exact b
  · split
    · exact b
    · rename_i h1 h2
      refine ⟨fun u hu => ?_, b.ser⟩
      rcases List.mem_append.1 hu with h | h
      · exact b.keys u h
      · rw [List.mem_singleton.1 h]; exact keysE_all (by simpa using h1)
theorem n_set {g : Gb} (b : Nk g) (u : Int) (x : Un) (h : ∀ k ∈ x.keys, isKeyB k = true) : Nk (setU g u x) := by
  refine ⟨fun v hv => ?_, b.ser⟩
  rcases List.mem_or_eq_of_mem_set hv with hv | rfl
  · exact b.keys v hv
  · exact h
theorem n_rely {g : Gb} (b : Nk g) (u : Int) (k : ByteArray) : Nk (relyOf g u k).1 := by
  unfold relyOf
  repeat' split
  all_goals try exact b
  rename_i h1 h2 h3 h4 h5
  obtain ⟨i, hi, rfl, e, hm⟩ := unOf_mem (g := g) (u := u) (by simpa using h1)
  refine n_set b _ _ fun x hx => ?_
  rcases insS_mem.1 hx with rfl | hx
  · simpa using h2
  · exact b.keys _ hm x hx
theorem n_into {g : Gb} (b : Nk g) (u o : Int) : Nk (intoOf g u o).1 := by
  unfold intoOf
  repeat' split
  all_goals try exact b
  rename_i h1 h2 h3 h4
  obtain ⟨i, hi, rfl, e, hm⟩ := unOf_mem (g := g) (u := u) (by simpa using fun h => h1 (.inl h))
  exact n_set b _ _ fun x hx => b.keys _ hm x hx
theorem n_fall {g : Gb} (b : Nk g) (S : Nat → Prop) : Nk (fallOf g S).1 := by
  refine ⟨fun u hu => ?_, b.ser⟩
  rcases fallU_mem hu with rfl | ⟨v, hv, rfl⟩
  · intro k hk; simp [Un.none] at hk
  · exact b.keys v hv
theorem n_bump {g : Gb} (b : Nk g) {k : ByteArray} (hk : isKeyB k = true) : Nk { g with ser := bump g.ser k } := by
  refine ⟨b.keys, fun p hp => ?_⟩
  simp only [bump] at hp
  split at hp
  · obtain ⟨q, hq, rfl⟩ := List.mem_map.1 hp
    split
    · exact hk
    · exact b.ser q hq
  · rcases List.mem_append.1 hp with hp | hp
    · exact b.ser p hp
    · rw [List.mem_singleton.1 hp]; exact hk
theorem n_move {g : Gb} (b : Nk g) (k : ByteArray) : Nk (moveOf g k).1 := by
  unfold moveOf
  split
  · exact b
  · rename_i h
    exact n_fall (n_bump b (by simpa using h)) _
theorem n_renew {g : Gb} (b : Nk g) (u : Int) (l : List ByteArray) : Nk (renewOf g u l).1 := by
  unfold renewOf
  repeat' split
  all_goals try exact b
  rename_i h1 h2 h3 h4
  exact n_set b _ _ (keysE_all (by simpa using h4))
theorem n_drop {g : Gb} (b : Nk g) (u : Int) : Nk (dropOf g u).1 := by
  unfold dropOf
  repeat' split
  all_goals first | exact b | exact n_fall b _
theorem n_born : Nk bornB := ⟨by simp [bornB], by simp [bornB]⟩
structure Fb (n : Nat) (g : Gb) : Prop where
  bk : Bk n g
  nk : Nk g
theorem isKeyB_max {k : ByteArray} (h : isKeyB k = true) : k.size ≤ 60 := by simp only [isKeyB, Bool.and_eq_true, decide_eq_true_eq] at h; exact h.2
def addS (S : List ByteArray) (k : ByteArray) : List ByteArray := if hasS S k = true then S else S ++ [k]
theorem addS_mem {S : List ByteArray} {k x : ByteArray} : x ∈ addS S k ↔ x ∈ S ∨ x = k := by
  unfold addS
  split
  · rename_i h
    exact ⟨.inl, fun h' => h'.elim id fun e => e ▸ hasS_iff.1 h⟩
  · simp
theorem addS_nodup {S : List ByteArray} (h : S.Nodup) (k : ByteArray) : (addS S k).Nodup := by
  unfold addS
  split
  · exact h
  · rename_i hk
    refine List.nodup_append.2 ⟨h, by simp, fun a ha b hb e => ?_⟩
    rw [List.mem_singleton.1 hb] at e
    exact hk (hasS_iff.2 (e ▸ ha))
theorem addS_len (S : List ByteArray) (k : ByteArray) : (addS S k).length ≤ S.length + 1 := by unfold addS; split <;> simp
def seenS (l : List ByteArray) : List ByteArray := l.foldl addS []
theorem seenS_snoc (l : List ByteArray) (k : ByteArray) : seenS (l ++ [k]) = addS (seenS l) k := by rw [seenS, List.foldl_append]; rfl
theorem seenS_spec (l : List ByteArray) : (∀ x, x ∈ seenS l ↔ x ∈ l) ∧ (seenS l).Nodup ∧ (seenS l).length ≤ l.length := by
  have key : ∀ (l S : List ByteArray), S.Nodup → (∀ x, x ∈ l.foldl addS S ↔ x ∈ S ∨ x ∈ l) ∧ (l.foldl addS S).Nodup ∧ (l.foldl addS S).length ≤ S.length + l.length := by
    intro l
    induction l with
    | nil => intro S h; exact ⟨by simp, h, by simp⟩
    | cons a l ih =>
      intro S h
      obtain ⟨h1, h2, h3⟩ := ih (addS S a) (addS_nodup h a)
      refine ⟨fun x => ?_, h2, ?_⟩
      · rw [List.foldl_cons, h1, addS_mem, List.mem_cons, or_assoc]
      · rw [List.foldl_cons]; have := addS_len S a; simp; omega
  obtain ⟨h1, h2, h3⟩ := key l [] List.nodup_nil
  exact ⟨fun x => by rw [seenS, h1]; simp, h2, by simpa [seenS] using h3⟩
theorem keysS_seen (l : List ByteArray) : keysS (seenS l) = keysS l := asc_ext (keysS_asc _) (keysS_asc _) fun x => by rw [keysS_mem, keysS_mem, (seenS_spec l).1]
def seE (S : List ByteArray) : D := sq (S.map fun k => .agg (.cons (.val (.string k)) (.cons (.val (.bool true)) .nil)))
def dSe (S : List ByteArray) : D := .map true () (seE S)
@[simp high] theorem head_dSe (S : List ByteArray) : isHead (dSe S) = true := by rw [dSe, isHead]
@[simp] theorem seE_nil : seE [] = .nil := rfl
theorem seE_cons (k : ByteArray) (S : List ByteArray) : seE (k :: S) = .cons (.agg (.cons (.val (.string k)) (.cons (.val (.bool true)) .nil))) (seE S) := rfl
@[simp] theorem seE_free (S : List ByteArray) : (seE S).free = true := sq_free fun x hx => by obtain ⟨n, _, rfl⟩ := List.mem_map.1 hx; rfl
@[simp] theorem seE_keys (S : List ByteArray) : mkeysOk .string (seE S) = True := by
  refine eq_true ?_
  induction S with
  | nil => trivial
  | cons e l ih => rw [seE_cons]; exact ⟨trivial, ih⟩
theorem seE_put (S : List ByteArray) (k : ByteArray) : mput (.string k) (.val (.bool true)) (seE S) = seE (addS S k) := by
  induction S with
  | nil => simp [addS, hasS]; unfold mput; rfl
  | cons e l ih =>
    rw [seE_cons]
    unfold mput
    by_cases h : e = k
    · subst h
      rw [if_pos rfl]
      have : addS (e :: l) e = e :: l := by rw [addS, if_pos (hasS_iff.2 (by simp))]
      rw [this, seE_cons]
    · rw [if_neg (by simpa using h), ih]
      have hne : ¬ k = e := fun e2 => h e2.symm
      have e1 : hasS (e :: l) k = hasS l k := by simp [hasS, h]
      have : addS (e :: l) k = e :: addS l k := by
        unfold addS
        rw [e1]
        split <;> rfl
      rw [this, seE_cons]
theorem keysAre_se (S : List ByteArray) : keysAre (seE S) S := by
  induction S with
  | nil => trivial
  | cons e l ih => rw [seE_cons]; exact ⟨rfl, ih⟩
theorem keysAre_ser (m : List (ByteArray × Int)) : keysAre (dSer m) (m.map (·.1)) := by
  induction m with
  | nil => trivial
  | cons e l ih => rw [dSer_cons]; exact ⟨rfl, ih⟩
def upQ (g : Gb) (u : Int) : Bool × Int := if hasB g u = false then (false, 1) else ((unOf g u).up, 0)
def keysQ (g : Gb) (u : Int) : List ByteArray × Int := if hasB g u = false then ([], 1) else ((unOf g u).keys, 0)
def serialQ (g : Gb) (k : ByteArray) : Int × Int := if isKeyB k = false then (0, 6) else (serOf g.ser k, 0)
noncomputable def whoQ (g : Gb) (k : ByteArray) : List Nat × Int := if isKeyB k = false then ([], 6) else (whoOf g k, 0)
noncomputable def allQ (g : Gb) (u : Int) : List ByteArray × Int := if hasB g u = false then ([], 1) else (allKOf g u.toNat, 0)
end Go.Proofs.YtipokdbfdingmaaGreat

/- What the program tells of a book. -/
namespace Go.Proofs.YtipokdbfdingmaaGreat
set_option linter.all false
open Go.Vc Go.Proofs
set_option linter.unusedSimpArgs false
set_option linter.unusedVariables false
set_option maxRecDepth 100000
set_option maxHeartbeats 4000000
attribute [local irreducible] CallW EqK
theorem up_c (g : Gb) (u : Int) : Meets Tryz.prog 38 [dBk g] (.cons (.ptr 0 [.d]) (.cons (avInt u) .nil)) fun av X κ => av = avTwo (avBool (upQ g u).1) (upQ g u).2 ∧ X = [dBk g] ∧ κ = [] := by
 by_cases hh : hasB g u = true
 ·obtain ⟨i, hi, rfl, hu, _⟩ := unOf_mem hh
  have hn := dUns_nth (o := true) hi
  have hq : upQ g i = (g.units[i].up, 0) := by simp [upQ, hh, hu]
  have hii : (i : Int) < g.units.length := by omega
  refine fb Tryz.func38 Tryz.ntmps38 [.tmp 4, .tmp 5] fun w0 I0 F0 hF => ?_
  repeat first|refine n1 ?_|((first|refine rg 0 [0, 1] [0, 1] [] ?_|refine rg 1 [0, 1] [0, 1, 9] [] ?_);simp (maxSteps := 1000000) [hF, dBk])
  refine (has_c g i).go [(0, [])] (by simp (maxSteps := 1000000) [hF, dBk, hh]) ?_;rintro av X κ ⟨rfl, rfl, rfl⟩;simp (maxSteps := 1000000) [hF, dBk, hh]
  repeat first|refine n1 ?_|refine n2 ?_|((first|refine rg 3 [0, 1] [4, 5] [] ?_|refine nc ?_);simp (maxSteps := 1000000) [hF, dBk, hn, hi, hii])
  (try refine nr ?_);(repeat first|refine nb_ ?_|refine nl_ ?_);refine endK.o [4, 5] [0] [] ?_;simp [hF, retK, covers, mpre, dBk, hq]
 ·have hh : hasB g u = false := by simpa using hh
  have hq : upQ g u = (false, 1) := by simp [upQ, hh]
  refine fb Tryz.func38 Tryz.ntmps38 [.tmp 4, .tmp 5] fun w0 I0 F0 hF => ?_
  repeat first|refine n1 ?_|((first|refine rg 0 [0, 1] [0, 1] [] ?_|refine rg 1 [0, 1] [0, 1, 9] [] ?_);simp (maxSteps := 1000000) [hF, dBk])
  refine (has_c g u).go [(0, [])] (by simp (maxSteps := 1000000) [hF, dBk, hh]) ?_;rintro av X κ ⟨rfl, rfl, rfl⟩;simp (maxSteps := 1000000) [hF, dBk, hh]
  repeat first|refine n1 ?_|((first|refine rg 2 [] [4, 5] [] ?_|refine nc ?_);simp (maxSteps := 1000000) [hF])
  (try refine nr ?_);(repeat first|refine nb_ ?_|refine nl_ ?_);refine endK.o [4, 5] [0] [] ?_;simp [hF, retK, covers, mpre, dBk, hq]
theorem keys_c {n : Nat} (g : Gb) (b : Bk n g) (u : Int) : Meets Tryz.prog 40 [dBk g] (.cons (.ptr 0 [.d]) (.cons (avInt u) .nil))
  fun av X κ => av = avTwo (.sub 1 [] 0 (keysQ g u).1.length false) (keysQ g u).2 ∧ X = [dBk g, .sl true () 1 (strs (keysQ g u).1)] ∧ κ = [] := by
 by_cases hh : hasB g u = true
 ·obtain ⟨i, hi, rfl, hu, _⟩ := unOf_mem hh
  have hn := dUns_nth (o := true) hi
  have hq : keysQ g i = (g.units[i].keys, 0) := by simp [keysQ, hh, hu]
  have hii : (i : Int) < g.units.length := by omega
  have hk := (b.asc _ (List.getElem_mem hi)).2
  have hsm := dUns_same (o := true) hi rfl
  refine fb Tryz.func40 Tryz.ntmps40 [.tmp 4, .tmp 5] fun w0 I0 F0 hF => ?_
  repeat first|refine n1 ?_|((first|refine rg 0 [0, 1] [0, 1] [] ?_|refine rg 1 [0, 1] [0, 1, 9] [] ?_);simp (maxSteps := 1000000) [hF, dBk])
  refine (has_c g i).go [(0, [])] (by simp (maxSteps := 1000000) [hF, dBk, hh]) ?_;rintro av X κ ⟨rfl, rfl, rfl⟩;simp (maxSteps := 1000000) [hF, dBk, hh]
  repeat first|refine n1 ?_|refine n2 ?_|((first|refine rg 3 [0, 1] [4, 5] [] ?_|refine nc ?_);simp (maxSteps := 1000000) [hF, dBk, hn, hi, hii])
  refine (cloneS_c false g.units[i].keys (by omega)).go [(0, [.d, .f 0, .i i, .f 1])] (by simp (maxSteps := 1000000) [hF, dBk, hn, hi, hii, hsm]) ?_;rintro av X κ ⟨rfl, rfl, rfl⟩;simp (maxSteps := 1000000) [hF, dBk, hn, hi, hii, hsm]
  (try refine nr ?_);(repeat first|refine nb_ ?_|refine nl_ ?_);refine endK.o [4, 5] [0, 1] [] ?_;simp [hF, retK, covers, mpre, dBk, hq, hsm]
 ·have hh : hasB g u = false := by simpa using hh
  have hq : keysQ g u = ([], 1) := by simp [keysQ, hh]
  refine fb Tryz.func40 Tryz.ntmps40 [.tmp 4, .tmp 5] fun w0 I0 F0 hF => ?_
  repeat first|refine n1 ?_|((first|refine rg 0 [0, 1] [0, 1] [] ?_|refine rg 1 [0, 1] [0, 1, 9] [] ?_);simp (maxSteps := 1000000) [hF, dBk])
  refine (has_c g u).go [(0, [])] (by simp (maxSteps := 1000000) [hF, dBk, hh]) ?_;rintro av X κ ⟨rfl, rfl, rfl⟩;simp (maxSteps := 1000000) [hF, dBk, hh]
  repeat first|refine n1 ?_|((first|refine rg 2 [] [4, 5] [] ?_|refine nc ?_);simp (maxSteps := 1000000) [hF])
  refine VS.hold0 4 1 (by simp) ?_
  (try refine nr ?_);(repeat first|refine nb_ ?_|refine nl_ ?_);refine endK.o [4, 5] [0, 1] [] ?_;simp [hF, retK, covers, mpre, dBk, hq]
theorem serial_c (g : Gb) (k : ByteArray) : Meets Tryz.prog 44 [dBk g] (.cons (.ptr 0 [.d]) (.cons (avStr k) .nil)) fun av X κ => av = avTwo (avInt (serialQ g k).1) (serialQ g k).2 ∧ X = [dBk g] ∧ κ = [] := by
 cases hk : isKeyB k with
 | false =>
  have hq : serialQ g k = (0, 6) := by simp [serialQ, hk]
  refine fb Tryz.func44 Tryz.ntmps44 [.tmp 4, .tmp 5] fun w0 I0 F0 hF => ?_
  repeat first|refine n1 ?_|((first|refine rg 0 [0, 1] [0, 1] [] ?_|refine rg 1 [0, 1] [0, 1, 8] [] ?_);simp (maxSteps := 1000000) [hF, dBk])
  refine (real_c g).go [(0, [])] (by simp (maxSteps := 1000000) [hF, dBk]) ?_;rintro av X κ ⟨rfl, rfl, rfl⟩;simp (maxSteps := 1000000) [hF, dBk]
  repeat first|refine n1 ?_|refine n2 ?_|((first|refine rg 3 [0, 1] [0, 1, 11] [] ?_|refine nc ?_);simp (maxSteps := 1000000) [hF])
  refine (isKey_ok k).go [] (by simp (maxSteps := 1000000) [hF, hk]) ?_;rintro av X κ ⟨rfl, rfl, rfl⟩;simp (maxSteps := 1000000) [hF, hk]
  repeat first|refine n1 ?_|((first|refine rg 4 [] [4, 5] [] ?_|refine nc ?_);simp (maxSteps := 1000000) [hF, hk])
  (try refine nr ?_);(repeat first|refine nb_ ?_|refine nl_ ?_);refine endK.o [4, 5] [0] [] ?_;simp [hF, retK, covers, mpre, dBk, hq]
 | true =>
  have hq : serialQ g k = (serOf g.ser k, 0) := by simp [serialQ, hk]
  have hf := dSer_find g.ser k
  refine fb Tryz.func44 Tryz.ntmps44 [.tmp 4, .tmp 5] fun w0 I0 F0 hF => ?_
  repeat first|refine n1 ?_|((first|refine rg 0 [0, 1] [0, 1] [] ?_|refine rg 1 [0, 1] [0, 1, 8] [] ?_);simp (maxSteps := 1000000) [hF, dBk])
  refine (real_c g).go [(0, [])] (by simp (maxSteps := 1000000) [hF, dBk]) ?_;rintro av X κ ⟨rfl, rfl, rfl⟩;simp (maxSteps := 1000000) [hF, dBk]
  repeat first|refine n1 ?_|refine n2 ?_|((first|refine rg 3 [0, 1] [0, 1, 11] [] ?_|refine nc ?_);simp (maxSteps := 1000000) [hF])
  refine (isKey_ok k).go [] (by simp (maxSteps := 1000000) [hF, hk]) ?_;rintro av X κ ⟨rfl, rfl, rfl⟩;simp (maxSteps := 1000000) [hF, hk]
  cases hs : g.ser.find? fun p => decide (p.1 = k) with
  | none =>
   have hv : serOf g.ser k = 0 := by rw [serOf, hs]; rfl
   rw [hs] at hf
   repeat first|refine n1 ?_|refine n2 ?_|((first|refine rg 5 [0, 1] [4, 5] [] ?_|refine nc ?_);simp (maxSteps := 1000000) [hF, hk, dBk, hf, isKey_str])
   (try refine nr ?_);(repeat first|refine nb_ ?_|refine nl_ ?_);refine endK.o [4, 5] [0] [] ?_;simp [hF, retK, covers, mpre, dBk, hq, hv]
  | some p =>
   have hv : serOf g.ser k = p.2 := by rw [serOf, hs]; rfl
   rw [hs] at hf
   repeat first|refine n1 ?_|refine n2 ?_|((first|refine rg 5 [0, 1] [4, 5] [] ?_|refine nc ?_);simp (maxSteps := 1000000) [hF, hk, dBk, hf, isKey_str])
   (try refine nr ?_);(repeat first|refine nb_ ?_|refine nl_ ?_);refine endK.o [4, 5] [0] [] ?_;simp [hF, retK, covers, mpre, dBk, hq, hv]
theorem who_c {n : Nat} (g : Gb) (b : Bk n g) (k : ByteArray) : Meets Tryz.prog 46 [dBk g] (.cons (.ptr 0 [.d]) (.cons (avStr k) .nil))
  fun av X κ => av = avTwo (.sub 1 [] 0 (whoQ g k).1.length false) (whoQ g k).2 ∧ X = [dBk g, .sl true () 1 (dInts (nats (whoQ g k).1))] ∧ κ = [] := by
 cases hk : isKeyB k with
 | false =>
  have hq : whoQ g k = ([], 6) := by simp [whoQ, hk]
  refine fb Tryz.func46 Tryz.ntmps46 [.tmp 4, .tmp 5] fun w0 I0 F0 hF => ?_
  repeat first|refine n1 ?_|((first|refine rg 0 [0, 1] [0, 1] [] ?_|refine rg 1 [0, 1] [0, 1, 8] [] ?_);simp (maxSteps := 1000000) [hF, dBk])
  refine (real_c g).go [(0, [])] (by simp (maxSteps := 1000000) [hF, dBk]) ?_;rintro av X κ ⟨rfl, rfl, rfl⟩;simp (maxSteps := 1000000) [hF, dBk]
  repeat first|refine n1 ?_|refine n2 ?_|((first|refine rg 3 [0, 1] [0, 1, 11] [] ?_|refine nc ?_);simp (maxSteps := 1000000) [hF])
  refine (isKey_ok k).go [] (by simp (maxSteps := 1000000) [hF, hk]) ?_;rintro av X κ ⟨rfl, rfl, rfl⟩;simp (maxSteps := 1000000) [hF, hk]
  repeat first|refine n1 ?_|((first|refine rg 4 [] [4, 5] [] ?_|refine nc ?_);simp (maxSteps := 1000000) [hF, hk])
  refine VS.hold0 4 1 (by simp) ?_
  (try refine nr ?_);(repeat first|refine nb_ ?_|refine nl_ ?_);refine endK.o [4, 5] [0, 1] [] ?_;simp [hF, retK, covers, mpre, dBk, hq]
 | true =>
  have hq : whoQ g k = (whoOf g k, 0) := by simp [whoQ, hk]
  have hw : numb (aboveOf g.units (· ∈ relyL g.units k)) = whoOf g k := by rw [above_rely]; rfl
  have hul := b.len
  have hrl := relyL_len g.units k
  refine fb Tryz.func46 Tryz.ntmps46 [.tmp 4, .tmp 5] fun w0 I0 F0 hF => ?_
  repeat first|refine n1 ?_|((first|refine rg 0 [0, 1] [0, 1] [] ?_|refine rg 1 [0, 1] [0, 1, 8] [] ?_);simp (maxSteps := 1000000) [hF, dBk])
  refine (real_c g).go [(0, [])] (by simp (maxSteps := 1000000) [hF, dBk]) ?_;rintro av X κ ⟨rfl, rfl, rfl⟩;simp (maxSteps := 1000000) [hF, dBk]
  repeat first|refine n1 ?_|refine n2 ?_|((first|refine rg 3 [0, 1] [0, 1, 11] [] ?_|refine nc ?_);simp (maxSteps := 1000000) [hF])
  refine (isKey_ok k).go [] (by simp (maxSteps := 1000000) [hF, hk]) ?_;rintro av X κ ⟨rfl, rfl, rfl⟩;simp (maxSteps := 1000000) [hF, hk]
  repeat first|refine n1 ?_|refine n2 ?_|((first|refine rg 5 [0, 1] [4, 5] [] ?_|refine nc ?_);simp (maxSteps := 1000000) [hF, hk])
  refine (relying_ok g b k).go [(0, [])] (by simp (maxSteps := 1000000) [hF, dBk]) ?_;rintro av X κ ⟨rfl, rfl, rfl⟩;simp (maxSteps := 1000000) [hF, dBk]
  refine (above_w g b false (relyL g.units k) (relyL_s g.units k) (by omega)).go [(1, []), (0, [])] (by simp (maxSteps := 1000000) [hF, dBk]) ?_;rintro av X κ ⟨rfl, rfl, rfl⟩;simp (maxSteps := 1000000) [hF, dBk]
  refine (marked_c true (aboveOf g.units (· ∈ relyL g.units k)) (by simp; omega)).go [(2, [])] (by simp (maxSteps := 1000000) [hF, dBk, hw]) ?_;rintro av X κ ⟨rfl, rfl, rfl⟩;simp (maxSteps := 1000000) [hF, dBk, hw]
  (try refine nr ?_);(repeat first|refine nb_ ?_|refine nl_ ?_);refine endK.o [4, 5] [0, 3] [] ?_;simp [hF, retK, covers, mpre, dBk, hq, hw]
theorem moves_c {n : Nat} (g : Gb) (f : Fb n g) (hn : n ≤ 1000000) : Meets Tryz.prog 17 [dBk g] (.cons (.ptr 0 [.d]) .nil)
  fun av X κ => av = .sub 1 [] 0 (movedOf g).length false ∧ X = [dBk g, .sl true () 1 (strs (movedOf g))] ∧ κ = [] := by
 have hm := f.bk.moved.1
 have hl : (movedOf g).length = (g.ser.map (·.1)).length := by
  have : movedOf g = (g.ser.map (·.1)).mergeSort leS := (sortS_keys f.bk.ser).symm
  rw [this, List.length_mergeSort]
 have hmm : keysS (g.ser.map (·.1)) = movedOf g := rfl
 refine fb Tryz.func17 Tryz.ntmps17 [.tmp 2] fun w0 I0 F0 hF => ?_
 repeat first|refine n1 ?_|((first|refine rg 0 [0] [0] [] ?_|refine rg 1 [0] [0, 5] [] ?_);simp (maxSteps := 1000000) [hF, dBk])
 refine (real_c g).go [(0, [])] (by simp (maxSteps := 1000000) [hF, dBk]) ?_;rintro av X κ ⟨rfl, rfl, rfl⟩;simp (maxSteps := 1000000) [hF, dBk]
 repeat first|refine n1 ?_|refine n2 ?_|((first|refine rg 3 [0] [2] [] ?_|refine nc ?_);simp (maxSteps := 1000000) [hF, dBk])
 refine (keysI_ok (dSer g.ser)).goQ [(0, [.d, .f 1])] (by simp (maxSteps := 1000000) [hF, dBk]) (by rintro av X κ pl ⟨rfl, rfl, rfl, rfl⟩ e he;simp at he;subst he;simp) ?_;rintro av X κ pl ⟨rfl, rfl, rfl, rfl⟩;simp (maxSteps := 1000000) [hF, St.withP, embP, dBk]
 refine (sortedI_ok (dSer g.ser) (g.ser.map (·.1)) (keysAre_ser g.ser) (fun k hk => by obtain ⟨p, hp, rfl⟩ := List.mem_map.1 hk; have := isKeyB_max (f.nk.ser p hp); exact Nat.le_trans this (by decide)) (by simp; omega) f.bk.ser).goP [(0, [.d, .f 1]), (1, [])] (by simp (maxSteps := 1000000) [hF, plsOk, dBk, hmm]) ?_;rintro av X κ ⟨rfl, rfl, rfl⟩;simp (maxSteps := 1000000) [hF, dBk, hmm]
 (try refine nr ?_);(repeat first|refine nb_ ?_|refine nl_ ?_);refine endK.o [2] [0, 2] [] ?_;simp [hF, retK, covers, mpre, dBk, hmm, hl]
end Go.Proofs.YtipokdbfdingmaaGreat

/- Books of grounds, plainly: the keys that a unit hangs on. -/
namespace Go.Proofs.YtipokdbfdingmaaGreat
set_option linter.all false
open Go.Vc Go.Proofs
noncomputable def keysUp (g : Gb) (u : Nat) (i : Nat) : List ByteArray := ((List.range i).filter fun i : Nat => (unOf g i).up && rcB g.units (fun x => x = i) u).flatMap fun i : Nat => (unOf g i).keys
theorem unOf_at {g : Gb} {i : Nat} (h : i < g.units.length) : unOf g i = g.units[i] := by rw [unOf, show (i : Int).toNat = i from rfl, List.getElem?_eq_getElem h]; rfl
theorem keysUp_zero (g : Gb) (u : Nat) : keysUp g u 0 = [] := rfl
theorem keysUp_all (g : Gb) (u : Nat) : keysS (keysUp g u g.units.length) = allKOf g u := rfl
theorem keysUp_yes {g : Gb} {u i : Nat} (h : i < g.units.length) (hu : g.units[i].up = true) (hr : rcB g.units (fun x => x = i) u = true) : keysUp g u (i + 1) = keysUp g u i ++ g.units[i].keys := by
  rw [keysUp, List.range_succ, List.filter_append, List.flatMap_append, List.filter_cons, unOf_at h, hu, hr]
  simp [keysUp, unOf_at h]
theorem keysUp_no {g : Gb} {u i : Nat} (h : i < g.units.length) (hn : (g.units[i].up && rcB g.units (fun x => x = i) u) = false) : keysUp g u (i + 1) = keysUp g u i := by
  rw [keysUp, List.range_succ, List.filter_append, List.flatMap_append, List.filter_cons, unOf_at h, hn]
  simp [keysUp]
theorem keysUp_mem {g : Gb} {u i : Nat} {k : ByteArray} (hi : i ≤ g.units.length) (h : k ∈ keysUp g u i) : ∃ v ∈ g.units, k ∈ v.keys := by
  obtain ⟨j, hj, hk⟩ := List.mem_flatMap.1 h
  have hjl := List.mem_range.1 (List.mem_filter.1 hj).1
  rw [unOf_at (by omega)] at hk
  exact ⟨_, List.getElem_mem (by omega), hk⟩
theorem keysUp_len {n : Nat} {g : Gb} (b : Bk n g) (u : Nat) : ∀ i, i ≤ g.units.length → (keysUp g u i).length ≤ 30 * i
  | 0, _ => by simp [keysUp_zero]
  | i + 1, h => by
    have ih := keysUp_len b u i (by omega)
    cases hc : ((unOf g i).up && rcB g.units (fun x => x = i) u) with
    | false =>
      rw [unOf_at (by omega)] at hc
      rw [keysUp_no (by omega) hc]; omega
    | true =>
      rw [unOf_at (by omega), Bool.and_eq_true] at hc
      rw [keysUp_yes (by omega) hc.1 hc.2, List.length_append]
      have := (b.asc _ (List.getElem_mem (show i < g.units.length by omega))).2
      omega
end Go.Proofs.YtipokdbfdingmaaGreat

/- The program's All. -/
namespace Go.Proofs.YtipokdbfdingmaaGreat
set_option linter.all false
open Go.Vc Go.Proofs
set_option linter.unusedSimpArgs false
set_option linter.unusedVariables false
set_option maxRecDepth 100000
set_option maxHeartbeats 4000000
attribute [local irreducible] CallW EqK
theorem all_c {n : Nat} (g : Gb) (f : Fb n g) (u : Int) : Meets Tryz.prog 42 [dBk g] (.cons (.ptr 0 [.d]) (.cons (avInt u) .nil))
  fun av X κ => av = avTwo (.sub 1 [] 0 (allQ g u).1.length false) (allQ g u).2 ∧ X = [dBk g, .sl true () 1 (strs (allQ g u).1)] ∧ κ = [] := by
 have b := f.bk
 by_cases hh : hasB g u = true
 ·obtain ⟨v, hv, rfl, hu, _⟩ := unOf_mem hh
  have hq : allQ g v = (allKOf g v, 0) := by simp [allQ, hh]
  have hul := b.len
  refine fb Tryz.func42 Tryz.ntmps42 [.tmp 4, .tmp 5] fun w0 I0 F0 hF => ?_
  repeat first|refine n1 ?_|((first|refine rg 0 [0, 1] [0, 1] [] ?_|refine rg 1 [0, 1] [0, 1, 14] [] ?_);simp (maxSteps := 1000000) [hF, dBk])
  refine (has_c g v).go [(0, [])] (by simp (maxSteps := 1000000) [hF, dBk, hh]) ?_;rintro av X κ ⟨rfl, rfl, rfl⟩;simp (maxSteps := 1000000) [hF, dBk, hh]
  repeat first|refine n1 ?_|refine n2 ?_|refine n3 ?_|((first|refine rg 3 [0, 1] [0, 1, 6] [] ?_|refine rg 4 [0, 1, 6] [0, 1, 6, 19, 20, 21] [] ?_|refine nc ?_);simp (maxSteps := 1000000) [hF, dBk])
  refine VS.pick [0, 1, 6, 19, 20, 21] [0, 1] (by simp [hF]) ?_;simp [hF]
  refine VS.rounds (fun m st => ∃ (i : Nat), i + m = g.units.length ∧ st = ⟨[(0, .ptr 0 [.d]), (1, avInt v), (6, .mp 1 []), (19, .sub 0 [.d, .f 0] 0 g.units.length false), (20, avInt g.units.length), (21, avInt i)],
   [dBk g, dSe (seenS (keysUp g v i))], [], []⟩) ⟨g.units.length, 0, by omega, by simp [dBk, dSe, keysUp_zero, seenS]⟩ ?_
  rintro m st ⟨i, hi, rfl⟩
  repeat first|refine n1 ?_|((first|refine rg 5 [0, 1, 6, 19, 20, 21] [0, 1, 6, 19, 20, 21, 22] [] ?_|refine nc ?_);simp (maxSteps := 1000000) [hF, dBk, dSe])
  refine ⟨fun hlt => ?_, fun hge => ?_⟩
  ·have hi' : i < g.units.length := by omega
   have hn := dUns_nth (o := true) hi'
   have hw : IntKind.i64.wrap ((i : Int) + 1) = (i + 1 : Nat) := by rw [IntWalk.i64_in _ (by omega)]; rfl
   have hkl := (b.asc _ (List.getElem_mem hi')).2
   cases hup : g.units[i].up with
   | false =>
    have hs : keysUp g v (i + 1) = keysUp g v i := keysUp_no hi' (by rw [hup]; rfl)
    repeat first|refine n1 ?_|refine n2 ?_|refine n3 ?_|refine n4 ?_|refine n5 ?_|refine n6 ?_|((first|refine rg 6 [0, 1, 6, 19, 20, 21] [0, 1, 6, 7, 8, 19, 20, 21] [] ?_|refine rg 7 [0, 1, 6, 7, 8, 19, 20, 21] [0, 1, 6, 8, 19, 20, 21, 36] [(2, 28)] ?_|refine rg 13 [0, 1, 6, 19, 20, 21] [0, 1, 6, 19, 20, 21] [] ?_|refine nc ?_);simp (maxSteps := 1000000) [hF, dBk, hn, hi', hw, hup])
    refine nextK.of [0, 1, 6, 19, 20, 21] [0, 1] (m - 1) (by omega) (by simp [hF]) ?_
    exact ⟨i + 1, by omega, by rw [hs]; simp [dBk, dSe]⟩
   | true =>
    have h1 : dInts (nats [i]) = .cons (.val (.int .i64 i)) .nil := rfl
    have hvl : v < (aboveOf g.units fun x => x = i).length := by simpa using hv
    have hbn := dBools_nth hvl
    rw [aboveOf_at hv] at hbn
    have hvi : (v : Int) < g.units.length := by omega
    repeat first|refine n1 ?_|refine n2 ?_|refine n3 ?_|((first|refine rg 6 [0, 1, 6, 19, 20, 21] [0, 1, 6, 7, 8, 19, 20, 21] [] ?_|refine rg 7 [0, 1, 6, 7, 8, 19, 20, 21] [0, 1, 6, 8, 19, 20, 21, 36] [(2, 28)] ?_);simp (maxSteps := 1000000) [hF, dBk, hn, hi', hw, hup])
    refine (above_1 g b true i hi').go [(3, []), (0, [])] (by simp (maxSteps := 1000000) [hF, dBk, dSe, h1, hup, hbn, hv, hvi]) ?_;rintro av X κ ⟨rfl, rfl, rfl⟩;simp (maxSteps := 1000000) [hF, dBk, dSe, h1, hup, hbn, hv, hvi]
    cases hr : rcB g.units (fun x => x = i) v with
    | false =>
     have hs : keysUp g v (i + 1) = keysUp g v i := keysUp_no hi' (by rw [hup, hr]; rfl)
     repeat first|refine n2 ?_|refine n4 ?_|refine n5 ?_|refine n6 ?_|((first|refine rg 13 [0, 1, 6, 19, 20, 21] [0, 1, 6, 19, 20, 21] [] ?_|refine nc ?_);simp (maxSteps := 1000000) [hF, hr, hw])
     refine nextK.of [0, 1, 6, 19, 20, 21] [0, 1] (m - 1) (by omega) (by simp [hF]) ?_
     exact ⟨i + 1, by omega, by rw [hs]; simp [dBk, dSe]⟩
    | true =>
     have hs : keysUp g v (i + 1) = keysUp g v i ++ g.units[i].keys := keysUp_yes hi' hup hr
     repeat first|refine n1 ?_|refine n3 ?_|((first|refine rg 8 [0, 1, 6, 8, 19, 20, 21] [0, 1, 6, 19, 20, 21, 38, 39, 40] [] ?_|refine nc ?_);simp (maxSteps := 1000000) [hF, hr, hw, dBk, dSe, hn, hi'])
     refine VS.pick [0, 1, 6, 19, 20, 21, 38, 39, 40] [0, 1] (by simp [hF]) ?_;simp [hF]
     refine VS.rounds (fun m st => ∃ (j : Nat), j + m = g.units[i].keys.length ∧ st = ⟨[(0, .ptr 0 [.d]), (1, avInt v), (6, .mp 1 []), (19, .sub 0 [.d, .f 0] 0 g.units.length false), (20, avInt g.units.length), (21, avInt i), (38, .sub 0 [.d, .f 0, .i i, .f 1] 0 g.units[i].keys.length false), (39, avInt g.units[i].keys.length), (40, avInt j)],
      [dBk g, dSe (seenS (keysUp g v i ++ g.units[i].keys.take j))], [], []⟩) ⟨g.units[i].keys.length, 0, by omega, by simp [dBk, dSe]⟩ ?_
     rintro m2 st ⟨j, hj, rfl⟩
     repeat first|refine n1 ?_|((first|refine rg 9 [0, 1, 6, 19, 20, 21, 38, 39, 40] [0, 1, 6, 19, 20, 21, 38, 39, 40, 41] [] ?_|refine nc ?_);simp (maxSteps := 1000000) [hF, dBk, dSe, hn, hi'])
     refine ⟨fun hlt2 => ?_, fun hge2 => ?_⟩
     ·have hj' : j < g.units[i].keys.length := by omega
      have hsn := strs_nth hj'
      have hw2 : IntKind.i64.wrap ((j : Int) + 1) = (j + 1 : Nat) := by rw [IntWalk.i64_in _ (by omega)]; rfl
      have hput := seE_put (seenS (keysUp g v i ++ g.units[i].keys.take j)) g.units[i].keys[j]
      have hss : seenS (keysUp g v i ++ g.units[i].keys.take (j + 1)) = addS (seenS (keysUp g v i ++ g.units[i].keys.take j)) g.units[i].keys[j] := by
       rw [take_succ_at hj', ← List.append_assoc, seenS_snoc]
      repeat first|refine n1 ?_|refine n2 ?_|refine n3 ?_|refine n4 ?_|refine n5 ?_|refine n6 ?_|((first|refine rg 10 [0, 1, 6, 19, 20, 21, 38, 39, 40] [0, 1, 6, 10, 19, 20, 21, 38, 39, 40] [] ?_|refine rg 11 [0, 1, 6, 10, 19, 20, 21, 38, 39, 40] [0, 1, 6, 19, 20, 21, 38, 39, 40] [] ?_|refine rg 12 [0, 1, 6, 19, 20, 21, 38, 39, 40] [0, 1, 6, 19, 20, 21, 38, 39, 40] [] ?_);simp (maxSteps := 1000000) [hF, dBk, dSe, hn, hi', hsn, hj', hw2, hput, isKey_str])
      refine nextK.of [0, 1, 6, 19, 20, 21, 38, 39, 40] [0, 1] (m2 - 1) (by omega) (by simp [hF]) ?_
      exact ⟨j + 1, by omega, by rw [hss]; simp [dBk, dSe]⟩
     ·have hjl : j = g.units[i].keys.length := by omega
      subst hjl
      rw [List.take_length, ← hs]
      repeat first|refine n4 ?_|refine n5 ?_|refine n6 ?_|refine n7 ?_|(refine rg 13 [0, 1, 6, 19, 20, 21] [0, 1, 6, 19, 20, 21] [] ?_;simp (maxSteps := 1000000) [hF, hw])
      refine nextK.of [0, 1, 6, 19, 20, 21] [0, 1] (m - 1) (by omega) (by simp [hF]) ?_
      exact ⟨i + 1, by omega, by simp [dBk, dSe]⟩
  ·have hil : i = g.units.length := by omega
   subst hil
   have hse := seenS_spec (keysUp g v g.units.length)
   have hle := keysUp_len b v g.units.length (Nat.le_refl _)
   have hks : keysS (seenS (keysUp g v g.units.length)) = allKOf g v := by rw [keysS_seen, keysUp_all]
   have hkl : (allKOf g v).length = (seenS (keysUp g v g.units.length)).length := by
    rw [← hks, ← sortS_keys hse.2.1, List.length_mergeSort]
   repeat first|refine n1 ?_|refine n7 ?_|(refine rg 14 [6] [4, 5] [] ?_;simp (maxSteps := 1000000) [hF])
   refine (keysB_ok (seE (seenS (keysUp g v g.units.length)))).goQ [(1, [])] (by simp (maxSteps := 1000000) [hF, dSe]) (by rintro av X κ pl ⟨rfl, rfl, rfl, rfl⟩ e he;simp at he;subst he;simp) ?_;rintro av X κ pl ⟨rfl, rfl, rfl, rfl⟩;simp (maxSteps := 1000000) [hF, St.withP, embP, dSe]
   refine (sortedB_ok (seE (seenS (keysUp g v g.units.length))) (seenS (keysUp g v g.units.length)) (keysAre_se _) (fun k hk => by obtain ⟨w, hw, hkw⟩ := keysUp_mem (Nat.le_refl _) ((hse.1 k).1 hk); have := isKeyB_max (f.nk.keys w hw k hkw); exact Nat.le_trans this (by decide)) (by omega) hse.2.1).goP [(1, []), (2, [])] (by simp (maxSteps := 1000000) [hF, plsOk, dSe, hks]) ?_;rintro av X κ ⟨rfl, rfl, rfl⟩;simp (maxSteps := 1000000) [hF, dSe, hks]
   (try refine nr ?_);(repeat first|refine nb_ ?_|refine nl_ ?_);refine endK.o [4, 5] [0, 3] [] ?_;simp [hF, retK, covers, mpre, dBk, dSe, hq, hks, hkl]
 ·have hh : hasB g u = false := by simpa using hh
  have hq : allQ g u = ([], 1) := by simp [allQ, hh]
  refine fb Tryz.func42 Tryz.ntmps42 [.tmp 4, .tmp 5] fun w0 I0 F0 hF => ?_
  repeat first|refine n1 ?_|((first|refine rg 0 [0, 1] [0, 1] [] ?_|refine rg 1 [0, 1] [0, 1, 14] [] ?_);simp (maxSteps := 1000000) [hF, dBk])
  refine (has_c g u).go [(0, [])] (by simp (maxSteps := 1000000) [hF, dBk, hh]) ?_;rintro av X κ ⟨rfl, rfl, rfl⟩;simp (maxSteps := 1000000) [hF, dBk, hh]
  repeat first|refine n1 ?_|((first|refine rg 2 [] [4, 5] [] ?_|refine nc ?_);simp (maxSteps := 1000000) [hF])
  refine VS.hold0 4 1 (by simp) ?_
  (try refine nr ?_);(repeat first|refine nb_ ?_|refine nl_ ?_);refine endK.o [4, 5] [0, 1] [] ?_;simp [hF, retK, covers, mpre, dBk, hq]
end Go.Proofs.YtipokdbfdingmaaGreat
