/- The library's sort of texts, in place: the kit's contract, carried over. -/
import Derived.Test.YtbhigdljojlhnaaK4
import Derived.Test.YtbhigdljojlhnaaK7
import Derived.Shelf.Sort.Plain
import Derived.Test.YtbhigdljojlhnaaK3
namespace Go.Vc
set_option linter.all false
open Go.Proofs Go.Shelf Go.Sort Go.RowKit
open T (hdr blk)
def strs (l : List ByteArray) : D := sq (l.map fun n => .val (.string n))
end Go.Vc

/- Tables of methods, plainly: lists of pairs; what is found. -/
namespace Go.Proofs.Ytbhigdljojlhnaa
set_option linter.all false
open Go.Vc Go.Proofs
open Go.Vc.T (keyT keyT_inj)
section
variable {κ α : Type} [DecidableEq κ]
def aget : List (κ × α) → κ → Option α
  | [], _ => none
  | e :: l, k => if e.1 = k then some e.2 else aget l k
def aput : List (κ × α) → κ → α → List (κ × α)
  | [], k, v => [(k, v)]
  | e :: l, k, v => if e.1 = k then (e.1, v) :: l else e :: aput l k v
def adel : List (κ × α) → κ → List (κ × α)
  | [], _ => []
  | e :: l, k => if e.1 = k then l else e :: adel l k
def aidx : List (κ × α) → κ → Nat
  | [], _ => 0
  | e :: l, k => if e.1 = k then 0 else aidx l k + 1
theorem aget_put (l : List (κ × α)) (k k' : κ) (v : α) : aget (aput l k v) k' = if k' = k then some v else aget l k' := by
  induction l with
  | nil =>
    by_cases h : k' = k
    · subst h; simp [aput, aget]
    · simp [aput, aget, h, Ne.symm h]
  | cons e l ih =>
    unfold aput
    by_cases h : e.1 = k
    · rw [if_pos h]
      by_cases h' : k' = k
      · rw [if_pos h']; simp [aget, h, h']
      · rw [if_neg h']
        have : ¬ e.1 = k' := fun q => h' (by rw [← q, h])
        simp [aget, this]
    · rw [if_neg h]
      by_cases h' : e.1 = k'
      · have hne : ¬ k' = k := fun q => h (by rw [h', q])
        simp [aget, h', hne]
      · simp only [aget, if_neg h', ih]
theorem aput_put (l : List (κ × α)) (k : κ) (u v : α) : aput (aput l k u) k v = aput l k v := by
  induction l with
  | nil => simp [aput]
  | cons e l ih =>
    unfold aput
    by_cases h : e.1 = k
    · simp [aput, h]
    · simp [aput, h, ih]
theorem aget_mem {l : List (κ × α)} {k : κ} {v : α} (h : aget l k = some v) : (k, v) ∈ l := by
  induction l with
  | nil => cases h
  | cons e l ih =>
    unfold aget at h
    by_cases he : e.1 = k
    · rw [if_pos he] at h; cases h; subst he; simp
    · rw [if_neg he] at h; exact List.mem_cons_of_mem _ (ih h)
theorem aput_keys (l : List (κ × α)) (k : κ) (v : α) : (aput l k v).map (·.1) = if k ∈ l.map (·.1) then l.map (·.1) else l.map (·.1) ++ [k] := by
  induction l with
  | nil => simp [aput]
  | cons e l ih =>
    unfold aput
    by_cases h : e.1 = k
    · rw [if_pos h]; simp [h]
    · rw [if_neg h, List.map_cons, ih]
      by_cases h' : k ∈ l.map (·.1)
      · rw [if_pos h', if_pos (by simp only [List.map_cons, List.mem_cons]; exact .inr h')]; rfl
      · rw [if_neg h', if_neg (by simp only [List.map_cons, List.mem_cons, not_or]; exact ⟨Ne.symm h, h'⟩)]; rfl
theorem aput_nodup {l : List (κ × α)} (h : (l.map (·.1)).Nodup) (k : κ) (v : α) : ((aput l k v).map (·.1)).Nodup := by
  rw [aput_keys]
  split
  · exact h
  · rename_i hk
    rw [List.nodup_append]
    exact ⟨h, by simp, fun a ha b hb => by rw [List.mem_singleton] at hb; subst hb; exact fun q => hk (q ▸ ha)⟩
theorem aidx_lt {l : List (κ × α)} {k : κ} {v : α} (h : aget l k = some v) : ∃ hi : aidx l k < l.length, l[aidx l k] = (k, v) := by
  induction l with
  | nil => cases h
  | cons e l ih =>
    unfold aget at h
    unfold aidx
    by_cases he : e.1 = k
    · rw [if_pos he] at h
      cases h
      subst he
      simp only [if_true]
      exact ⟨by simp, rfl⟩
    · rw [if_neg he] at h
      obtain ⟨hi, hv⟩ := ih h
      simp only [if_neg he]
      exact ⟨by simp only [List.length_cons]; omega, by simpa using hv⟩
theorem aput_at {l : List (κ × α)} {k : κ} {v u : α} (h : aget l k = some v) : aput l k u = l.set (aidx l k) (k, u) := by
  induction l with
  | nil => cases h
  | cons e l ih =>
    unfold aget at h
    unfold aput aidx
    by_cases he : e.1 = k
    · rw [if_pos he, if_pos he]; subst he; rfl
    · rw [if_neg he] at h
      rw [if_neg he, if_neg he, ih h]; rfl
end
@[simp] theorem strs_len (l : List ByteArray) : (strs l).len = l.length := by simp [strs]
@[simp] theorem strs_free (l : List ByteArray) : (strs l).free = true := sq_free fun x hx => by obtain ⟨n, _, rfl⟩ := List.mem_map.1 hx; rfl
theorem strs_nth {l : List ByteArray} {i : Nat} (h : i < l.length) : (strs l).nth i = .val (.string l[i]) := by rw [strs, sq_nth_lt (by simpa using h)]; simp
@[simp] theorem strs_nil : strs [] = .nil := rfl
@[simp] theorem strs_app (l m : List ByteArray) : (strs l).app (strs m) = strs (l ++ m) := by simp [strs, sq_app]
@[simp] theorem strs_app1 (l : List ByteArray) (n : ByteArray) : (strs l).app (.cons (.val (.string n)) .nil) = strs (l ++ [n]) := strs_app l [n]
@[simp] theorem strs_mid_all (l : List ByteArray) : (strs l).mid 0 l.length = strs l := sq_mid_all _ _ (by simp)
@[simp] theorem strs_mid1 (l : List ByteArray) (n : ByteArray) : (strs (l ++ [n])).mid 0 (l.length + 1) = strs (l ++ [n]) := sq_mid_all _ _ (by simp)
theorem strs_mid (l : List ByteArray) (lo n : Nat) : (strs l).mid lo n = strs ((l.drop lo).take n) := by simp only [strs, sq_mid, ← List.map_drop, ← List.map_take]
@[simp] theorem freeze_strs (l : List ByteArray) : (strs l).freeze = strs l := by
  rw [strs, freeze_sq, List.map_map]; rfl
theorem strs_one (s : ByteArray) : (.cons (.val (.string s)) .nil : D) = strs [s] := rfl
@[simp] theorem width_dL (L : List Th) : (dL L).width = 1 := rfl
structure En where
  body : Int
  vis : Int
  home : Int
  known : ByteArray
  deriving DecidableEq
def dEnt (e : En) : D := .agg (.cons (.val (.int .i64 e.body)) (.cons (.val (.int .i64 e.vis)) (.cons (.val (.int .i64 e.home)) (.cons (.val (.string e.known)) .nil))))
abbrev Tb := List (ByteArray × En)
abbrev Key := Int × Int
def dNs (l : Tb) : D := sq (l.map fun e => .agg (.cons (.val (.string e.1)) (.cons (dEnt e.2) .nil)))
def dRows (o : Bool) (l : List (Key × Tb)) : D := sq (l.map fun e => .agg (.cons (.agg (.cons (.val (.int .i64 e.1.1)) (.cons (.val (.int .i64 e.1.2)) .nil))) (.cons (.map o () (dNs e.2)) .nil)))
def dFz (l : List (Int × Bool)) : D := sq (l.map fun e => .agg (.cons (.val (.int .i64 e.1)) (.cons (.val (.bool e.2)) .nil)))
structure Mt where
  L : List Th
  tabs : List (Key × Tb)
  fz : List (Int × Bool)
def dTs (o : Bool) (s : Mt) : D := .box true () (.agg (.cons (dL s.L) (.cons (.map o () (dRows o s.tabs)) (.cons (.map true () (dFz s.fz)) .nil))))
@[simp high] theorem head_dTs (o : Bool) (s : Mt) : isHead (dTs o s) = true := by rw [dTs, isHead]
abbrev keyV (k : Key) : Value := .agg #[.int .i64 k.1, .int .i64 k.2]
theorem keyT_two {α : Type} (a b : Int) : (keyT (.agg #[.int .i64 a, .int .i64 b]) : T α) = .agg (.cons (.val (.int .i64 a)) (.cons (.val (.int .i64 b)) .nil)) := rfl
theorem two_eq {a b c d : Int} : ((.agg (.cons (.val (.int .i64 a)) (.cons (.val (.int .i64 b)) .nil)) : D) = keyT (.agg #[.int .i64 c, .int .i64 d])) ↔ (a, b) = (c, d) := by
  rw [keyT_two]; simp
section
variable (o : Bool) (l : List (Key × Tb)) (a b : Int)
@[simp] theorem dNs_nil : dNs [] = .nil := rfl
@[simp] theorem dRows_nil : dRows o [] = .nil := rfl
@[simp] theorem dFz_nil : dFz [] = .nil := rfl
theorem dRows_cons (e : Key × Tb) : dRows o (e :: l) = .cons (.agg (.cons (.agg (.cons (.val (.int .i64 e.1.1)) (.cons (.val (.int .i64 e.1.2)) .nil))) (.cons (.map o () (dNs e.2)) .nil))) (dRows o l) := rfl
theorem dNs_cons (e : ByteArray × En) (t : Tb) : dNs (e :: t) = .cons (.agg (.cons (.val (.string e.1)) (.cons (dEnt e.2) .nil))) (dNs t) := rfl
theorem dFz_cons (e : Int × Bool) (t : List (Int × Bool)) : dFz (e :: t) = .cons (.agg (.cons (.val (.int .i64 e.1)) (.cons (.val (.bool e.2)) .nil))) (dFz t) := rfl
@[simp] theorem dRows_len : (dRows o l).len = l.length := by simp [dRows]
@[simp] theorem dNs_len (t : Tb) : (dNs t).len = t.length := by simp [dNs]
@[simp] theorem dRows_keys : mkeysOk .two (dRows o l) = True := by
  refine eq_true ?_
  induction l with
  | nil => trivial
  | cons e l ih => rw [dRows_cons]; exact ⟨⟨.agg #[.int .i64 e.1.1, .int .i64 e.1.2], rfl, _, _, rfl⟩, ih⟩
@[simp] theorem dNs_keys (t : Tb) : mkeysOk .str (dNs t) = True := by
  refine eq_true ?_
  induction t with
  | nil => trivial
  | cons e l ih => rw [dNs_cons]; exact ⟨⟨.string e.1, rfl, trivial⟩, ih⟩
@[simp] theorem dFz_keys (t : List (Int × Bool)) : mkeysOk (.int .i64) (dFz t) = True := by
  refine eq_true ?_
  induction t with
  | nil => trivial
  | cons e l ih => rw [dFz_cons]; exact ⟨⟨.int .i64 e.1, rfl, rfl⟩, ih⟩
@[simp] theorem nil_keys (k : KK) : mkeysOk k .nil = True := eq_true trivial
theorem dRows_find : mfind (.agg #[.int .i64 a, .int .i64 b]) (dRows o l) = (aget l (a, b)).map fun t => .map o () (dNs t) := by
  induction l with
  | nil => rfl
  | cons e l ih =>
    rw [dRows_cons]
    unfold mfind aget
    by_cases h : e.1 = (a, b)
    · rw [if_pos (two_eq.2 h), if_pos h]; rfl
    · rw [if_neg (fun q => h (two_eq.1 q)), if_neg h, ih]
theorem dRows_ix : mix (.agg #[.int .i64 a, .int .i64 b]) (dRows o l) = aidx l (a, b) := by
  induction l with
  | nil => rfl
  | cons e l ih =>
    rw [dRows_cons]
    unfold mix aidx
    by_cases h : e.1 = (a, b)
    · rw [if_pos (two_eq.2 h), if_pos h]
    · rw [if_neg (fun q => h (two_eq.1 q)), if_neg h, ih]
theorem dRows_put (t : Tb) : mput (.agg #[.int .i64 a, .int .i64 b]) (.map o () (dNs t)) (dRows o l) = dRows o (aput l (a, b) t) := by
  induction l with
  | nil => rfl
  | cons e l ih =>
    rw [dRows_cons]
    unfold mput aput
    by_cases h : e.1 = (a, b)
    · rw [if_pos (two_eq.2 h), if_pos h, dRows_cons]
    · rw [if_neg (fun q => h (two_eq.1 q)), if_neg h, dRows_cons, ih]
theorem str_eq {a b : ByteArray} : ((.val (.string a) : D) = keyT (.string b)) ↔ a = b := by rw [keyT_str]; simp
theorem dNs_find (t : Tb) (n : ByteArray) : mfind (.string n) (dNs t) = (aget t n).map dEnt := by
  induction t with
  | nil => rfl
  | cons e l ih =>
    rw [dNs_cons]
    unfold mfind aget
    by_cases h : e.1 = n
    · rw [if_pos (str_eq.2 h), if_pos h]; rfl
    · rw [if_neg (fun q => h (str_eq.1 q)), if_neg h, ih]
theorem dNs_put (t : Tb) (n : ByteArray) (v : En) : mput (.string n) (dEnt v) (dNs t) = dNs (aput t n v) := by
  induction t with
  | nil => rfl
  | cons e l ih =>
    rw [dNs_cons]
    unfold mput aput
    by_cases h : e.1 = n
    · rw [if_pos (str_eq.2 h), if_pos h, dNs_cons]
    · rw [if_neg (fun q => h (str_eq.1 q)), if_neg h, dNs_cons, ih]
theorem int_eq {a b : Int} : ((.val (.int .i64 a) : D) = keyT (.int .i64 b)) ↔ a = b := by rw [keyT_int]; simp
theorem dFz_find (t : List (Int × Bool)) (n : Int) : mfind (.int .i64 n) (dFz t) = (aget t n).map fun b => .val (.bool b) := by
  induction t with
  | nil => rfl
  | cons e l ih =>
    rw [dFz_cons]
    unfold mfind aget
    by_cases h : e.1 = n
    · rw [if_pos (int_eq.2 h), if_pos h]; rfl
    · rw [if_neg (fun q => h (int_eq.1 q)), if_neg h, ih]
theorem dRows_nth {l : List (Key × Tb)} {i : Nat} {k : Key} {t : Tb} (h : ∃ hi : i < l.length, l[i] = (k, t)) : (dRows o l).nth i = .agg (.cons (.agg (.cons (.val (.int .i64 k.1)) (.cons (.val (.int .i64 k.2)) .nil))) (.cons (.map o () (dNs t)) .nil)) := by
  obtain ⟨hi, h⟩ := h
  rw [dRows, sq_nth_lt (by simpa using hi)]; simp [h]
def dRowsX (o : Bool) (l : List (Key × Tb)) (i : Nat) (k : Key) (x : D) : D := (dRows o l).setN i (.agg (.cons (.agg (.cons (.val (.int .i64 k.1)) (.cons (.val (.int .i64 k.2)) .nil))) (.cons x .nil)))
@[simp] theorem dRowsX_len (o : Bool) (l : List (Key × Tb)) (i : Nat) (k : Key) (x : D) : (dRowsX o l i k x).len = l.length := by rw [dRowsX, T.len_setN, dRows_len]
theorem dRowsX_eq (o : Bool) (l : List (Key × Tb)) (i : Nat) (k1 k2 : Int) (x : D) : (dRows o l).setN i (.agg (.cons (.agg (.cons (.val (.int .i64 k1)) (.cons (.val (.int .i64 k2)) .nil))) (.cons x .nil))) = dRowsX o l i (k1, k2) x := rfl
theorem dRowsX_nth {o : Bool} {l : List (Key × Tb)} {i : Nat} (hi : i < l.length) (k : Key) (x : D) : (dRowsX o l i k x).nth i = .agg (.cons (.agg (.cons (.val (.int .i64 k.1)) (.cons (.val (.int .i64 k.2)) .nil))) (.cons x .nil)) := by
  rw [dRowsX, T.nth_setN_same _ (by simpa using hi)]
theorem setN_setN {α : Type} : ∀ (s : T α) (k : Nat) (x y : T α), (s.setN k x).setN k y = s.setN k y
  | .cons _ _, 0, _, _ => rfl
  | .cons _ t, k + 1, x, y => by simp only [T.setN, setN_setN t k x y]
  | .val _, _, _, _ => rfl
  | .junk _, _, _, _ => rfl
  | .nil, _, _, _ => rfl
  | .agg _, _, _, _ => rfl
  | .sl _ _ _ _, _, _, _ => rfl
  | .box _ _ _, _, _, _ => rfl
  | .map _ _ _, _, _, _ => rfl
theorem dRowsX_set (o : Bool) (l : List (Key × Tb)) (i : Nat) (k : Key) (k1 k2 : Int) (x y : D) : (dRowsX o l i k x).setN i (.agg (.cons (.agg (.cons (.val (.int .i64 k1)) (.cons (.val (.int .i64 k2)) .nil))) (.cons y .nil))) = dRowsX o l i (k1, k2) y := by
  rw [dRowsX, setN_setN]; rfl
theorem dRowsX_map (o : Bool) (l : List (Key × Tb)) (i : Nat) (k : Key) (t : Tb) : dRowsX o l i k (.map o () (dNs t)) = dRows o (l.set i (k, t)) := by
  simp only [dRowsX, dRows, sq_setN, List.map_set]
theorem dRowsX_cons0 (o : Bool) (e : Key × Tb) (l : List (Key × Tb)) (k : Key) (x : D) : dRowsX o (e :: l) 0 k x = .cons (.agg (.cons (.agg (.cons (.val (.int .i64 k.1)) (.cons (.val (.int .i64 k.2)) .nil))) (.cons x .nil))) (dRows o l) := rfl
theorem dRowsX_consS (o : Bool) (e : Key × Tb) (l : List (Key × Tb)) (i : Nat) (k : Key) (x : D) : dRowsX o (e :: l) (i + 1) k x = .cons (.agg (.cons (.agg (.cons (.val (.int .i64 e.1.1)) (.cons (.val (.int .i64 e.1.2)) .nil))) (.cons (.map o () (dNs e.2)) .nil))) (dRowsX o l i k x) := rfl
@[simp] theorem dRowsX_keys (o : Bool) (l : List (Key × Tb)) (i : Nat) (k : Key) (x : D) : mkeysOk .two (dRowsX o l i k x) = True := by
  refine eq_true ?_
  induction l generalizing i with
  | nil => exact trivial
  | cons e l ih =>
    cases i with
    | zero => rw [dRowsX_cons0]; exact ⟨⟨keyV k, rfl, _, _, rfl⟩, by have := dRows_keys o l; rw [this]; trivial⟩
    | succ i => rw [dRowsX_consS]; exact ⟨⟨keyV e.1, rfl, _, _, rfl⟩, ih i⟩
theorem dRowsX_find {o : Bool} {l : List (Key × Tb)} {a b : Int} {t : Tb} (h : aget l (a, b) = some t) (x : D) :
    mfind (.agg #[.int .i64 a, .int .i64 b]) (dRowsX o l (aidx l (a, b)) (a, b) x) = some x ∧ mix (.agg #[.int .i64 a, .int .i64 b]) (dRowsX o l (aidx l (a, b)) (a, b) x) = aidx l (a, b) := by
  induction l with
  | nil => cases h
  | cons e l ih =>
    unfold aget at h
    by_cases he : e.1 = (a, b)
    · have : aidx (e :: l) (a, b) = 0 := by unfold aidx; rw [if_pos he]
      rw [this, dRowsX_cons0]
      unfold mfind mix
      rw [if_pos (two_eq.2 rfl), if_pos (two_eq.2 rfl)]; exact ⟨rfl, rfl⟩
    · rw [if_neg he] at h
      have : aidx (e :: l) (a, b) = aidx l (a, b) + 1 := by rw [aidx, if_neg he]
      rw [this, dRowsX_consS]
      unfold mfind mix
      rw [if_neg (fun q => he (two_eq.1 q)), if_neg (fun q => he (two_eq.1 q))]
      obtain ⟨h1, h2⟩ := ih h
      exact ⟨h1, by rw [h2]⟩
end
end Go.Proofs.Ytbhigdljojlhnaa

/- Tables of methods, plainly: what is done with them. -/
namespace Go.Proofs.Ytbhigdljojlhnaa
set_option linter.all false
open Go.Vc Go.Proofs
def isNm (s : ByteArray) : Bool := decide (1 ≤ s.size) && decide (s.size ≤ 40)
def modB (s : Mt) (t : Int) : Bool := val s.L t && decide ((thAt s.L t).kind = 1)
def askE (s : Mt) (t : Int) (fine : Bool) (names : List ByteArray) : Int := if (val s.L t && fine) = false then 1 else if names.all isNm = false then 6 else 0
def frz (s : Mt) (t : Int) : Bool := (aget s.fz t).getD false
def chgE (s : Mt) (t : Int) (fine : Bool) (names : List ByteArray) : Int := if (decide (askE s t fine names = 0) && frz s t) = true then 13 else askE s t fine names
noncomputable def placesOf (s : Mt) (t : Int) (act : List Int) : List Key := (ordL s.L t).flatMap fun x => act.map (fun m => (x, m)) ++ [(x, -1)]
def lkp (s : Mt) (k : Key) (n : ByteArray) : Option En := (aget s.tabs k).bind fun t => aget t n
structure Fo where
  e : En
  th : Int
  md : Int
def En.none : En := ⟨0, 0, 0, ⟨#[]⟩⟩
def Fo.none : Fo := ⟨En.none, 0, 0⟩
def firstOf (s : Mt) : List Key → ByteArray → Fo × Bool
  | [], _ => (Fo.none, false)
  | k :: l, n => match lkp s k n with
    | some e => (⟨e, k.1, k.2⟩, decide (e.body ≠ -1))
    | none => firstOf s l n
noncomputable def findOf (s : Mt) (t : Int) (n : ByteArray) (act : List Int) : Fo × Bool := firstOf s (placesOf s t act) n
def putOf (s : Mt) (k : Key) (n : ByteArray) (e : En) : Mt := { s with tabs := aput s.tabs k (aput ((aget s.tabs k).getD []) n e) }
def delOf (s : Mt) (k : Key) (n : ByteArray) : Mt := { s with tabs := match aget s.tabs k with | some t => aput s.tabs k (adel t n) | none => s.tabs }
@[simp] theorem putOf_L (s : Mt) (k : Key) (n : ByteArray) (e : En) : (putOf s k n e).L = s.L := rfl
@[simp] theorem putOf_fz (s : Mt) (k : Key) (n : ByteArray) (e : En) : (putOf s k n e).fz = s.fz := rfl
@[simp] theorem delOf_L (s : Mt) (k : Key) (n : ByteArray) : (delOf s k n).L = s.L := rfl
@[simp] theorem delOf_fz (s : Mt) (k : Key) (n : ByteArray) : (delOf s k n).fz = s.fz := rfl
def bodyB (b : Int) : Bool := decide (0 ≤ b) && decide (b ≤ 1000000)
def visB (v : Int) : Bool := decide (0 ≤ v) && decide (v ≤ 2)
def defineOf (s : Mt) (t : Int) (n : ByteArray) (b v : Int) : Mt × Int :=
  if chgE s t (bodyB b && visB v) [n] = 0 then (putOf s (t, -1) n ⟨b, v, t, n⟩, 0) else (s, chgE s t (bodyB b && visB v) [n])
def refineOf (s : Mt) (m t : Int) (n : ByteArray) (b : Int) : Mt × Int :=
  if askE s t (modB s m && bodyB b) [n] = 0 then (putOf s (t, m) n ⟨b, 0, t, n⟩, 0) else (s, askE s t (modB s m && bodyB b) [n])
noncomputable def undefOf (s : Mt) (t : Int) (n : ByteArray) : Mt × Int :=
  if chgE s t true [n] ≠ 0 then (s, chgE s t true [n]) else if (findOf s t n []).2 = false then (s, 3) else (putOf s (t, -1) n ⟨-1, 0, t, n⟩, 0)
def actB (s : Mt) (act : List Int) : Bool := act.all (modB s)
def toldOf (f : Fo × Bool) : Fo × Int := if f.2 = false then (Fo.none, 3) else (f.1, 0)
noncomputable def FindOf (s : Mt) (t : Int) (n : ByteArray) (act : List Int) : Fo × Int :=
  if askE s t (actB s act) [n] ≠ 0 then (Fo.none, askE s t (actB s act) [n]) else toldOf (findOf s t n act)
structure MtOk (s : Mt) : Prop where
  ok : OK s.L
  pos : 0 < s.L.length
  nd : (s.tabs.map (·.1)).Nodup
  ns : ∀ k t, (k, t) ∈ s.tabs → (t.map (·.1)).Nodup
  nf : (s.fz.map (·.1)).Nodup
theorem MtOk.put {s : Mt} (h : MtOk s) (k : Key) (n : ByteArray) (e : En) : MtOk (putOf s k n e) := by
  refine ⟨h.ok, h.pos, aput_nodup h.nd _ _, fun k' t' hm => ?_, h.nf⟩
  have hnd := aput_nodup h.nd k (aput ((aget s.tabs k).getD []) n e)
  have hg : aget (putOf s k n e).tabs k' = some t' := by
    show aget (aput s.tabs k _) k' = some t'
    have hm' : (k', t') ∈ aput s.tabs k (aput ((aget s.tabs k).getD []) n e) := hm
    generalize aput s.tabs k (aput ((aget s.tabs k).getD []) n e) = l at *
    clear hm
    induction l with
    | nil => cases hm'
    | cons e l ih =>
      simp only [List.map_cons, List.nodup_cons] at hnd
      unfold aget
      rcases List.mem_cons.1 hm' with rfl | hm'
      · rw [if_pos rfl]
      · rw [if_neg fun q => hnd.1 (List.mem_map.2 ⟨_, hm', q.symm⟩)]
        exact ih hnd.2 hm'
  rw [show (putOf s k n e).tabs = aput s.tabs k (aput ((aget s.tabs k).getD []) n e) from rfl, aget_put] at hg
  split at hg
  · cases hg
    refine aput_nodup ?_ _ _
    cases hk : aget s.tabs k with
    | none => exact List.nodup_nil
    | some t => exact h.ns k t (aget_mem hk)
  · exact h.ns k' t' (aget_mem hg)
theorem MtOk.len {s : Mt} (h : MtOk s) : s.L.length ≤ 1000 := h.ok.len
end Go.Proofs.Ytbhigdljojlhnaa

/- What is asked of tables first. -/
namespace Go.Proofs.Ytbhigdljojlhnaa
set_option linter.all false
open Go.Vc Go.Proofs
set_option linter.unusedSimpArgs false
set_option linter.unusedVariables false
set_option maxRecDepth 100000
set_option maxHeartbeats 4000000
attribute [local irreducible] CallW EqK
theorem none_ok (o : Bool) (s : Mt) : Meets Try.prog 34 [dTs o s] (.cons (.ptr 0 [.d]) .nil) fun av X κ => av = avBool false ∧ X = [dTs o s] ∧ κ = [] := by
 refine fb Try.func34 Try.ntmps34 [.tmp 2] fun w0 I0 F0 hF => ?_
 repeat first|refine n1 ?_|refine n2 ?_|refine n3 ?_|refine n4 ?_|refine n5 ?_|refine n6 ?_|refine n7 ?_|refine n8 ?_|refine n9 ?_|refine n0 ?_|refine ⟨⟨by omega, by omega⟩, ?_⟩|((first|refine rg 0 [0] [0] [] ?_|refine rg 1 [0] [2] [(2, 5)] ?_|refine nc ?_);simp (maxSteps := 1000000) [hF, dTs, dL])
 (try refine nr ?_);(repeat first|refine nb_ ?_|refine nl_ ?_);refine endK.o [2] [0] [] ?_;simp [hF, retK, covers, mpre, dTs, dL]
theorem tis_ok (o : Bool) {s : Mt} (h : MtOk s) (t : Int) : Meets Try.prog 25 [dTs o s] (.cons (.ptr 0 [.d]) (.cons (avInt t) .nil)) fun av X κ => av = avBool (val s.L t) ∧ X = [dTs o s] ∧ κ = [] := by
 have hl := h.len
 refine fb Try.func25 Try.ntmps25 [.tmp 4] fun w0 I0 F0 hF => ?_
 repeat first|refine n1 ?_|refine n2 ?_|refine n3 ?_|refine n4 ?_|refine n5 ?_|refine n6 ?_|refine n7 ?_|refine n8 ?_|refine n9 ?_|refine n0 ?_|refine ⟨⟨by omega, by omega⟩, ?_⟩|((first|refine rg 0 [0, 1] [0, 1] [] ?_|refine rg 1 [0, 1] [4] [(3, 8), (7, 12)] ?_|refine nc ?_);simp (maxSteps := 1000000) [hF])
 by_cases h1 : 0 ≤ t
 ·refine (none_ok o s).go [(0, [])] (by simp (maxSteps := 1000000) [hF, dTs, dL, h1]) ?_;rintro av X κ ⟨rfl, rfl, rfl⟩;simp (maxSteps := 1000000) [hF, dTs, dL, h1]
  refine (len_ok s.L hl).go [(0, [.d, .f 0])] (by simp (maxSteps := 1000000) [hF, dTs, dL]) ?_;rintro av X κ ⟨rfl, rfl, rfl⟩;simp (maxSteps := 1000000) [hF, dTs, dL]
  repeat first|refine n1 ?_|refine n2 ?_|refine n3 ?_|refine n4 ?_|refine n5 ?_|refine n6 ?_|refine n7 ?_|refine n8 ?_|refine n9 ?_|refine n0 ?_|refine ⟨⟨by omega, by omega⟩, ?_⟩|((first|refine rg 0 [0, 1] [0, 1] [] ?_|refine rg 1 [0, 1] [4] [(3, 8), (7, 12)] ?_|refine nc ?_);simp (maxSteps := 1000000) [hF])
  have hv : decide (t < (s.L.length : Int)) = val s.L t := by simp [val, h1]
  (try refine nr ?_);(repeat first|refine nb_ ?_|refine nl_ ?_);refine endK.o [4] [0] [] ?_;simp [hF, retK, covers, mpre, dTs, dL, hv]
 ·have hv : val s.L t = false := by simp [val, h1]
  refine (none_ok o s).go [(0, [])] (by simp (maxSteps := 1000000) [hF, dTs, dL, h1]) ?_;rintro av X κ ⟨rfl, rfl, rfl⟩;simp (maxSteps := 1000000) [hF, dTs, dL, h1]
  repeat first|refine n1 ?_|refine n2 ?_|refine n3 ?_|refine n4 ?_|refine n5 ?_|refine n6 ?_|refine n7 ?_|refine n8 ?_|refine n9 ?_|refine n0 ?_|refine ⟨⟨by omega, by omega⟩, ?_⟩|((first|refine rg 0 [0, 1] [0, 1] [] ?_|refine rg 1 [0, 1] [4] [(3, 8), (7, 12)] ?_|refine nc ?_);simp (maxSteps := 1000000) [hF])
  (try refine nr ?_);(repeat first|refine nb_ ?_|refine nl_ ?_);refine endK.o [4] [0] [] ?_;simp [hF, retK, covers, mpre, dTs, dL, hv]
theorem Kind_no {L : List Th} (hl : L.length ≤ 1000) (t : Int) (hv : val L t = false) : Meets Try.prog 58 [dL L] (.cons (.ptr 0 [.d]) (.cons (avInt t) .nil))
  fun av X κ => av = avTwo (avInt 0) 1 ∧ X = [dL L] ∧ κ = [] := by
 refine fb Try.func58 Try.ntmps58 [.tmp 4, .tmp 5] fun w0 I0 F0 hF => ?_
 repeat first|refine n1 ?_|refine n2 ?_|refine n3 ?_|refine n4 ?_|refine n5 ?_|refine n6 ?_|refine n7 ?_|refine n8 ?_|refine n9 ?_|refine n0 ?_|refine ⟨⟨by omega, by omega⟩, ?_⟩|((first|refine rg 0 [0, 1] [0, 1] [] ?_|refine rg 1 [0, 1] [0, 1, 9] [] ?_|refine rg 2 [] [4, 5] [] ?_|refine rg 3 [0, 1] [4, 5] [] ?_|refine nc ?_);simp (maxSteps := 1000000) [hF])
 refine (is_ok L hl t).go [(0, [])] (by simp (maxSteps := 1000000) [hF, dL, hv]) ?_;rintro av X κ ⟨rfl, rfl, rfl⟩;simp (maxSteps := 1000000) [hF, dL, hv]
 repeat first|refine n1 ?_|refine n2 ?_|refine n3 ?_|refine n4 ?_|refine n5 ?_|refine n6 ?_|refine n7 ?_|refine n8 ?_|refine n9 ?_|refine n0 ?_|refine ⟨⟨by omega, by omega⟩, ?_⟩|((first|refine rg 0 [0, 1] [0, 1] [] ?_|refine rg 1 [0, 1] [0, 1, 9] [] ?_|refine rg 2 [] [4, 5] [] ?_|refine rg 3 [0, 1] [4, 5] [] ?_|refine nc ?_);simp (maxSteps := 1000000) [hF])
 (try refine nr ?_);(repeat first|refine nb_ ?_|refine nl_ ?_);refine endK.o [4, 5] [0] [] ?_;simp [hF, retK, covers, mpre, dL]
theorem mod_ok (o : Bool) {s : Mt} (h : MtOk s) (t : Int) : Meets Try.prog 35 [dTs o s] (.cons (.ptr 0 [.d]) (.cons (avInt t) .nil)) fun av X κ => av = avBool (modB s t) ∧ X = [dTs o s] ∧ κ = [] := by
 have hl := h.len
 refine fb Try.func35 Try.ntmps35 [.tmp 4] fun w0 I0 F0 hF => ?_
 repeat first|refine n1 ?_|refine n2 ?_|refine n3 ?_|refine n4 ?_|refine n5 ?_|refine n6 ?_|refine n7 ?_|refine n8 ?_|refine n9 ?_|refine n0 ?_|refine ⟨⟨by omega, by omega⟩, ?_⟩|((first|refine rg 0 [0, 1] [0, 1] [] ?_|refine rg 1 [0, 1] [5, 6] [] ?_|refine rg 2 [5, 6] [4] [(2, 18)] ?_|refine nc ?_);simp (maxSteps := 1000000) [hF, dTs, dL])
 cases hv : val s.L t with
 | false =>
  refine (Kind_no hl t hv).go [(0, [.d, .f 0])] (by simp (maxSteps := 1000000) [hF, dTs, dL]) ?_;rintro av X κ ⟨rfl, rfl, rfl⟩;simp (maxSteps := 1000000) [hF, dTs, dL]
  repeat first|refine n1 ?_|refine n2 ?_|refine n3 ?_|refine n4 ?_|refine n5 ?_|refine n6 ?_|refine n7 ?_|refine n8 ?_|refine n9 ?_|refine n0 ?_|refine ⟨⟨by omega, by omega⟩, ?_⟩|((first|refine rg 0 [0, 1] [0, 1] [] ?_|refine rg 1 [0, 1] [5, 6] [] ?_|refine rg 2 [5, 6] [4] [(2, 18)] ?_|refine nc ?_);simp (maxSteps := 1000000) [hF])
  (try refine nr ?_);(repeat first|refine nb_ ?_|refine nl_ ?_);refine endK.o [4] [0] [] ?_;simp [hF, retK, covers, mpre, dTs, dL, modB, hv]
 | true =>
  obtain ⟨k, rfl, hk⟩ := val_nat hv
  have hth := thAt_eq hk
  refine (Kind_yes hl k hk).go [(0, [.d, .f 0])] (by simp (maxSteps := 1000000) [hF, dTs, dL]) ?_;rintro av X κ ⟨rfl, rfl, rfl⟩;simp (maxSteps := 1000000) [hF, dTs, dL]
  repeat first|refine n1 ?_|refine n2 ?_|refine n3 ?_|refine n4 ?_|refine n5 ?_|refine n6 ?_|refine n7 ?_|refine n8 ?_|refine n9 ?_|refine n0 ?_|refine ⟨⟨by omega, by omega⟩, ?_⟩|((first|refine rg 0 [0, 1] [0, 1] [] ?_|refine rg 1 [0, 1] [5, 6] [] ?_|refine rg 2 [5, 6] [4] [(2, 18)] ?_|refine nc ?_);simp (maxSteps := 1000000) [hF])
  (try refine nr ?_);(repeat first|refine nb_ ?_|refine nl_ ?_);refine endK.o [4] [0] [] ?_;simp [hF, retK, covers, mpre, dTs, dL, modB, hv, hth]
theorem isName_ok (n : ByteArray) : Meets Try.prog 45 [] (.cons (.val (.string n)) .nil) fun av X κ => av = avBool (isNm n) ∧ X = [] ∧ κ = [] := by
 refine fb Try.func45 Try.ntmps45 [.tmp 2] fun w0 I0 F0 hF => ?_
 by_cases h : n = ByteArray.empty
 ·subst h
  have he : (ByteArray.empty = ({ data := #[] } : ByteArray)) = True := eq_true rfl
  repeat first|refine n1 ?_|refine n2 ?_|refine n3 ?_|refine n4 ?_|refine n5 ?_|refine n6 ?_|refine n7 ?_|refine n8 ?_|refine n9 ?_|refine n0 ?_|refine ⟨⟨by omega, by omega⟩, ?_⟩|((first|refine rg 0 [0] [0] [] ?_|refine rg 1 [0] [2] [(2, 5)] ?_|refine nc ?_);simp (maxSteps := 1000000) [hF, he])
  (try refine nr ?_);(repeat first|refine nb_ ?_|refine nl_ ?_);refine endK.o [2] [] [] ?_;simp [hF, retK, covers, mpre, isNm]
 ·have h' : ¬ n = { data := #[] } := h
  have hs : 1 ≤ n.size := by
   rcases Nat.eq_zero_or_pos n.size with h0 | h0
   ·exfalso
    apply h
    obtain ⟨d⟩ := n
    have : d = #[] := Array.eq_empty_of_size_eq_zero h0
    subst this; rfl
   ·exact h0
  repeat first|refine n1 ?_|refine n2 ?_|refine n3 ?_|refine n4 ?_|refine n5 ?_|refine n6 ?_|refine n7 ?_|refine n8 ?_|refine n9 ?_|refine n0 ?_|refine ⟨⟨by omega, by omega⟩, ?_⟩|((first|refine rg 0 [0] [0] [] ?_|refine rg 1 [0] [2] [(2, 5)] ?_|refine nc ?_);simp (maxSteps := 1000000) [hF, h'])
  have hd : decide ((n.size : Int) ≤ 40) = isNm n := by
   have : ((n.size : Int) ≤ 40) ↔ n.size ≤ 40 := by omega
   simp [isNm, hs, this]
  (try refine nr ?_);(repeat first|refine nb_ ?_|refine nl_ ?_);refine endK.o [2] [] [] ?_;simp [hF, retK, covers, mpre, hd]
theorem ask1_ok (n : ByteArray) : Meets Try.prog 44 [] (.cons (.val (.string n)) .nil) fun av X κ => av = avBool (!isNm n) ∧ X = [] ∧ κ = [] := by
 refine fb Try.func44 Try.ntmps44 [.tmp 2] fun w0 I0 F0 hF => ?_
 repeat first|refine n1 ?_|refine n2 ?_|refine n3 ?_|refine n4 ?_|refine n5 ?_|refine n6 ?_|refine n7 ?_|refine n8 ?_|refine n9 ?_|refine n0 ?_|refine ⟨⟨by omega, by omega⟩, ?_⟩|((first|refine rg 0 [0] [0] [] ?_|refine rg 1 [0] [2] [] ?_|refine nc ?_);simp (maxSteps := 1000000) [hF])
 refine (isName_ok n).go [] (by simp (maxSteps := 1000000) [hF]) ?_;rintro av X κ ⟨rfl, rfl, rfl⟩;simp (maxSteps := 1000000) [hF]
 repeat first|refine n1 ?_|refine n2 ?_|refine n3 ?_|refine n4 ?_|refine n5 ?_|refine n6 ?_|refine n7 ?_|refine n8 ?_|refine n9 ?_|refine n0 ?_|refine ⟨⟨by omega, by omega⟩, ?_⟩|((first|refine rg 0 [0] [0] [] ?_|refine rg 1 [0] [2] [] ?_|refine nc ?_);simp (maxSteps := 1000000) [hF])
 (try refine nr ?_);(repeat first|refine nb_ ?_|refine nl_ ?_);refine endK.o [2] [] [] ?_;simp [hF, retK, covers, mpre]
def dNames (l : List ByteArray) : D := .sl true () 1 (strs l)
@[simp high] theorem head_dNames (l : List ByteArray) : isHead (dNames l) = true := by rw [dNames, isHead]
theorem indexFunc_s (ex : Bool) (ls : List ByteArray) (hl : ls.length ≤ 100) : Meets Try.prog 65 [dNames ls] (.cons (.sub 0 [] 0 ls.length ex) (.cons (.fn 44 .nil) .nil))
  fun av X κ => av = avInt (ixF (fun n => !isNm n) ls) ∧ X = [dNames ls] ∧ κ = [] := by
 refine fb Try.func65 Try.ntmps65 [.tmp 4] fun w0 I0 F0 hF => ?_
 repeat first|refine n1 ?_|refine n2 ?_|refine n3 ?_|refine n4 ?_|refine n5 ?_|refine n6 ?_|refine n7 ?_|refine n8 ?_|refine n9 ?_|refine n0 ?_|refine ⟨⟨by omega, by omega⟩, ?_⟩|((first|refine rg 0 [0, 1] [0, 1] [] ?_|refine rg 1 [0, 1] [0, 1, 7, 8] [] ?_|refine rg 2 [0, 1, 7, 8] [0, 1, 7, 8, 9] [] ?_|refine rg 3 [0, 1, 7, 8] [0, 1, 5, 7, 8] [] ?_|refine rg 4 [0, 1, 5, 7, 8] [0, 1, 5, 7, 8, 16] [] ?_|refine rg 5 [5] [4] [] ?_|refine rg 6 [0, 1, 7, 8] [0, 1, 7, 8] [] ?_|refine rg 7 [] [4] [] ?_|refine nc ?_);simp (maxSteps := 1000000) [hF, dNames])
 refine VS.rounds (fun m st => ∃ (i : Nat), i + m = ls.length ∧ (∀ j, (h : j < ls.length) → j < i → (!isNm ls[j]) = false) ∧ st = ⟨[(0, .sub 0 [] 0 ls.length ex), (1, .fn 44 .nil), (7, avInt ls.length), (8, avInt i)], [dNames ls], [], []⟩) ⟨ls.length, 0, by omega, by omega, by simp [dNames]⟩ ?_
 rintro m st ⟨i, hi, hall, rfl⟩
 repeat first|refine n1 ?_|refine n2 ?_|refine n3 ?_|refine n4 ?_|refine n5 ?_|refine n6 ?_|refine n7 ?_|refine n8 ?_|refine n9 ?_|refine n0 ?_|refine ⟨⟨by omega, by omega⟩, ?_⟩|((first|refine rg 0 [0, 1] [0, 1] [] ?_|refine rg 1 [0, 1] [0, 1, 7, 8] [] ?_|refine rg 2 [0, 1, 7, 8] [0, 1, 7, 8, 9] [] ?_|refine rg 3 [0, 1, 7, 8] [0, 1, 5, 7, 8] [] ?_|refine rg 4 [0, 1, 5, 7, 8] [0, 1, 5, 7, 8, 16] [] ?_|refine rg 5 [5] [4] [] ?_|refine rg 6 [0, 1, 7, 8] [0, 1, 7, 8] [] ?_|refine rg 7 [] [4] [] ?_|refine nc ?_);simp (maxSteps := 1000000) [hF, dNames])
 refine ⟨fun hlt => ?_, fun hge => ?_⟩
 ·have hi' : i < ls.length := by omega
  have hn := strs_nth hi'
  repeat first|refine n1 ?_|refine n2 ?_|refine n3 ?_|refine n4 ?_|refine n5 ?_|refine n6 ?_|refine n7 ?_|refine n8 ?_|refine n9 ?_|refine n0 ?_|refine ⟨⟨by omega, by omega⟩, ?_⟩|((first|refine rg 0 [0, 1] [0, 1] [] ?_|refine rg 1 [0, 1] [0, 1, 7, 8] [] ?_|refine rg 2 [0, 1, 7, 8] [0, 1, 7, 8, 9] [] ?_|refine rg 3 [0, 1, 7, 8] [0, 1, 5, 7, 8] [] ?_|refine rg 4 [0, 1, 5, 7, 8] [0, 1, 5, 7, 8, 16] [] ?_|refine rg 5 [5] [4] [] ?_|refine rg 6 [0, 1, 7, 8] [0, 1, 7, 8] [] ?_|refine rg 7 [] [4] [] ?_|refine nc ?_);simp (maxSteps := 1000000) [hF, dNames, hn, hi'])
  refine (ask1_ok ls[i]).go [] (by simp (maxSteps := 1000000) [hF, dNames]) ?_;rintro av X κ ⟨rfl, rfl, rfl⟩;simp (maxSteps := 1000000) [hF, dNames]
  cases hp : isNm ls[i] with
  | false =>
   have hr : ixF (fun n => !isNm n) ls = i := ixF_hit hi' (fun j h => hall j (by omega) h) (by simp [hp])
   repeat first|refine n1 ?_|refine n2 ?_|refine n3 ?_|refine n4 ?_|refine n5 ?_|refine n6 ?_|refine n7 ?_|refine n8 ?_|refine n9 ?_|refine n0 ?_|refine ⟨⟨by omega, by omega⟩, ?_⟩|((first|refine rg 0 [0, 1] [0, 1] [] ?_|refine rg 1 [0, 1] [0, 1, 7, 8] [] ?_|refine rg 2 [0, 1, 7, 8] [0, 1, 7, 8, 9] [] ?_|refine rg 3 [0, 1, 7, 8] [0, 1, 5, 7, 8] [] ?_|refine rg 4 [0, 1, 5, 7, 8] [0, 1, 5, 7, 8, 16] [] ?_|refine rg 5 [5] [4] [] ?_|refine rg 6 [0, 1, 7, 8] [0, 1, 7, 8] [] ?_|refine rg 7 [] [4] [] ?_|refine nc ?_);simp (maxSteps := 1000000) [hF, hp])
   (try refine nr ?_);(repeat first|refine nb_ ?_|refine nl_ ?_);refine endK.o [4] [0] [] ?_;simp [hF, retK, covers, mpre, hr, dNames]
  | true =>
   repeat first|refine n1 ?_|refine n2 ?_|refine n3 ?_|refine n4 ?_|refine n5 ?_|refine n6 ?_|refine n7 ?_|refine n8 ?_|refine n9 ?_|refine n0 ?_|refine ⟨⟨by omega, by omega⟩, ?_⟩|((first|refine rg 0 [0, 1] [0, 1] [] ?_|refine rg 1 [0, 1] [0, 1, 7, 8] [] ?_|refine rg 2 [0, 1, 7, 8] [0, 1, 7, 8, 9] [] ?_|refine rg 3 [0, 1, 7, 8] [0, 1, 5, 7, 8] [] ?_|refine rg 4 [0, 1, 5, 7, 8] [0, 1, 5, 7, 8, 16] [] ?_|refine rg 5 [5] [4] [] ?_|refine rg 6 [0, 1, 7, 8] [0, 1, 7, 8] [] ?_|refine rg 7 [] [4] [] ?_|refine nc ?_);simp (maxSteps := 1000000) [hF, hp])
   refine nextK.of [0, 1, 7, 8] [0] (m - 1) (by omega) (by simp [hF]) ?_
   refine ⟨i + 1, by omega, ?_, ?_⟩
   ·intro j hj hji
    rcases Nat.lt_or_ge j i with h' | h'
    ·exact hall j hj h'
    ·obtain rfl : j = i := by omega
     simp [hp]
   ·simp [dNames]
    exact IntWalk.i64_in _ (by omega)
 ·have hr : ixF (fun n => !isNm n) ls = -1 := ixF_miss (fun j h => hall j h (by omega))
  repeat first|refine n1 ?_|refine n2 ?_|refine n3 ?_|refine n4 ?_|refine n5 ?_|refine n6 ?_|refine n7 ?_|refine n8 ?_|refine n9 ?_|refine n0 ?_|refine ⟨⟨by omega, by omega⟩, ?_⟩|((first|refine rg 0 [0, 1] [0, 1] [] ?_|refine rg 1 [0, 1] [0, 1, 7, 8] [] ?_|refine rg 2 [0, 1, 7, 8] [0, 1, 7, 8, 9] [] ?_|refine rg 3 [0, 1, 7, 8] [0, 1, 5, 7, 8] [] ?_|refine rg 4 [0, 1, 5, 7, 8] [0, 1, 5, 7, 8, 16] [] ?_|refine rg 5 [5] [4] [] ?_|refine rg 6 [0, 1, 7, 8] [0, 1, 7, 8] [] ?_|refine rg 7 [] [4] [] ?_|refine nc ?_);simp (maxSteps := 1000000) [hF])
  (try refine nr ?_);(repeat first|refine nb_ ?_|refine nl_ ?_);refine endK.o [4] [0] [] ?_;simp [hF, retK, covers, mpre, hr, dNames]
theorem containsFunc_s (ex : Bool) (ls : List ByteArray) (hl : ls.length ≤ 100) : Meets Try.prog 43 [dNames ls] (.cons (.sub 0 [] 0 ls.length ex) (.cons (.fn 44 .nil) .nil))
  fun av X κ => av = avBool (!ls.all isNm) ∧ X = [dNames ls] ∧ κ = [] := by
 refine fb Try.func43 Try.ntmps43 [.tmp 4] fun w0 I0 F0 hF => ?_
 repeat first|refine n1 ?_|refine n2 ?_|refine n3 ?_|refine n4 ?_|refine n5 ?_|refine n6 ?_|refine n7 ?_|refine n8 ?_|refine n9 ?_|refine n0 ?_|refine ⟨⟨by omega, by omega⟩, ?_⟩|((first|refine rg 0 [0, 1] [0, 1] [] ?_|refine rg 1 [0, 1] [4] [] ?_|refine nc ?_);simp (maxSteps := 1000000) [hF])
 refine (indexFunc_s ex ls hl).go [(0, [])] (by simp (maxSteps := 1000000) [hF, dNames]) ?_;rintro av X κ ⟨rfl, rfl, rfl⟩;simp (maxSteps := 1000000) [hF, dNames]
 repeat first|refine n1 ?_|refine n2 ?_|refine n3 ?_|refine n4 ?_|refine n5 ?_|refine n6 ?_|refine n7 ?_|refine n8 ?_|refine n9 ?_|refine n0 ?_|refine ⟨⟨by omega, by omega⟩, ?_⟩|((first|refine rg 0 [0, 1] [0, 1] [] ?_|refine rg 1 [0, 1] [4] [] ?_|refine nc ?_);simp (maxSteps := 1000000) [hF])
 have h : decide ((0 : Int) ≤ ixF (fun n => !isNm n) ls) = !ls.all isNm := by
  simp only [ixF_ge, Bool.decide_eq_true]
  clear hl hF
  induction ls with
  | nil => rfl
  | cons a l ih => simp only [List.any_cons, List.all_cons, ih, Bool.not_and]
 (try refine nr ?_);(repeat first|refine nb_ ?_|refine nl_ ?_);refine endK.o [4] [0] [] ?_;simp [hF, retK, covers, mpre, h, dNames]
theorem asked_ok (o : Bool) {s : Mt} (h : MtOk s) (t : Int) (fine : Bool) (ns : List ByteArray) (ex : Bool) (hn : ns.length ≤ 100) : Meets Try.prog 21 [dTs o s, dNames ns] (.cons (.ptr 0 [.d]) (.cons (avInt t) (.cons (avBool fine) (.cons (.sub 1 [] 0 ns.length ex) .nil))))
  fun av X κ => av = avInt (askE s t fine ns) ∧ X = [dTs o s, dNames ns] ∧ κ = [] := by
 refine fb Try.func21 Try.ntmps21 [.tmp 8] fun w0 I0 F0 hF => ?_
 repeat first|refine n1 ?_|refine n2 ?_|refine n3 ?_|refine n4 ?_|refine n5 ?_|refine n6 ?_|refine n7 ?_|refine n8 ?_|refine n9 ?_|refine n0 ?_|refine ⟨⟨by omega, by omega⟩, ?_⟩|((first|refine rg 0 [0, 1, 2, 3] [0, 1, 2, 3] [] ?_|refine rg 1 [0, 1, 2, 3] [3, 9] [(4, 14)] ?_|refine rg 2 [] [8] [] ?_|refine rg 3 [3] [18] [] ?_|refine rg 4 [] [8] [] ?_|refine rg 5 [] [8] [] ?_|refine nc ?_);simp (maxSteps := 1000000) [hF])
 cases hv : val s.L t with
 | false =>
  have he : askE s t fine ns = 1 := by simp [askE, hv]
  refine (tis_ok o h t).go [(0, [])] (by simp (maxSteps := 1000000) [hF, dTs, dNames, hv]) ?_;rintro av X κ ⟨rfl, rfl, rfl⟩;simp (maxSteps := 1000000) [hF, dTs, dNames, hv]
  repeat first|refine n1 ?_|refine n2 ?_|refine n3 ?_|refine n4 ?_|refine n5 ?_|refine n6 ?_|refine n7 ?_|refine n8 ?_|refine n9 ?_|refine n0 ?_|refine ⟨⟨by omega, by omega⟩, ?_⟩|((first|refine rg 0 [0, 1, 2, 3] [0, 1, 2, 3] [] ?_|refine rg 1 [0, 1, 2, 3] [3, 9] [(4, 14)] ?_|refine rg 2 [] [8] [] ?_|refine rg 3 [3] [18] [] ?_|refine rg 4 [] [8] [] ?_|refine rg 5 [] [8] [] ?_|refine nc ?_);simp (maxSteps := 1000000) [hF])
  (try refine nr ?_);(repeat first|refine nb_ ?_|refine nl_ ?_);refine endK.o [8] [0, 1] [] ?_;simp [hF, retK, covers, mpre, he, dTs, dNames]
 | true =>
  cases fine with
  | false =>
   have he : askE s t false ns = 1 := by simp [askE]
   refine (tis_ok o h t).go [(0, [])] (by simp (maxSteps := 1000000) [hF, dTs, dNames, hv]) ?_;rintro av X κ ⟨rfl, rfl, rfl⟩;simp (maxSteps := 1000000) [hF, dTs, dNames, hv]
   repeat first|refine n1 ?_|refine n2 ?_|refine n3 ?_|refine n4 ?_|refine n5 ?_|refine n6 ?_|refine n7 ?_|refine n8 ?_|refine n9 ?_|refine n0 ?_|refine ⟨⟨by omega, by omega⟩, ?_⟩|((first|refine rg 0 [0, 1, 2, 3] [0, 1, 2, 3] [] ?_|refine rg 1 [0, 1, 2, 3] [3, 9] [(4, 14)] ?_|refine rg 2 [] [8] [] ?_|refine rg 3 [3] [18] [] ?_|refine rg 4 [] [8] [] ?_|refine rg 5 [] [8] [] ?_|refine nc ?_);simp (maxSteps := 1000000) [hF])
   (try refine nr ?_);(repeat first|refine nb_ ?_|refine nl_ ?_);refine endK.o [8] [0, 1] [] ?_;simp [hF, retK, covers, mpre, he, dTs, dNames]
  | true =>
   refine (tis_ok o h t).go [(0, [])] (by simp (maxSteps := 1000000) [hF, dTs, dNames, hv]) ?_;rintro av X κ ⟨rfl, rfl, rfl⟩;simp (maxSteps := 1000000) [hF, dTs, dNames, hv]
   repeat first|refine n1 ?_|refine n2 ?_|refine n3 ?_|refine n4 ?_|refine n5 ?_|refine n6 ?_|refine n7 ?_|refine n8 ?_|refine n9 ?_|refine n0 ?_|refine ⟨⟨by omega, by omega⟩, ?_⟩|((first|refine rg 0 [0, 1, 2, 3] [0, 1, 2, 3] [] ?_|refine rg 1 [0, 1, 2, 3] [3, 9] [(4, 14)] ?_|refine rg 2 [] [8] [] ?_|refine rg 3 [3] [18] [] ?_|refine rg 4 [] [8] [] ?_|refine rg 5 [] [8] [] ?_|refine nc ?_);simp (maxSteps := 1000000) [hF])
   cases hb : ns.all isNm with
   | false =>
    have he : askE s t true ns = 6 := by simp only [askE, hv, hb]; rfl
    refine (containsFunc_s ex ns hn).go [(1, [])] (by simp (maxSteps := 1000000) [hF, dNames, hb]) ?_;rintro av X κ ⟨rfl, rfl, rfl⟩;simp (maxSteps := 1000000) [hF, dNames, hb]
    repeat first|refine n1 ?_|refine n2 ?_|refine n3 ?_|refine n4 ?_|refine n5 ?_|refine n6 ?_|refine n7 ?_|refine n8 ?_|refine n9 ?_|refine n0 ?_|refine ⟨⟨by omega, by omega⟩, ?_⟩|((first|refine rg 0 [0, 1, 2, 3] [0, 1, 2, 3] [] ?_|refine rg 1 [0, 1, 2, 3] [3, 9] [(4, 14)] ?_|refine rg 2 [] [8] [] ?_|refine rg 3 [3] [18] [] ?_|refine rg 4 [] [8] [] ?_|refine rg 5 [] [8] [] ?_|refine nc ?_);simp (maxSteps := 1000000) [hF])
    (try refine nr ?_);(repeat first|refine nb_ ?_|refine nl_ ?_);refine endK.o [8] [0, 1] [] ?_;simp [hF, retK, covers, mpre, he, dTs, dNames]
   | true =>
    have he : askE s t true ns = 0 := by simp only [askE, hv, hb]; rfl
    refine (containsFunc_s ex ns hn).go [(1, [])] (by simp (maxSteps := 1000000) [hF, dNames, hb]) ?_;rintro av X κ ⟨rfl, rfl, rfl⟩;simp (maxSteps := 1000000) [hF, dNames, hb]
    repeat first|refine n1 ?_|refine n2 ?_|refine n3 ?_|refine n4 ?_|refine n5 ?_|refine n6 ?_|refine n7 ?_|refine n8 ?_|refine n9 ?_|refine n0 ?_|refine ⟨⟨by omega, by omega⟩, ?_⟩|((first|refine rg 0 [0, 1, 2, 3] [0, 1, 2, 3] [] ?_|refine rg 1 [0, 1, 2, 3] [3, 9] [(4, 14)] ?_|refine rg 2 [] [8] [] ?_|refine rg 3 [3] [18] [] ?_|refine rg 4 [] [8] [] ?_|refine rg 5 [] [8] [] ?_|refine nc ?_);simp (maxSteps := 1000000) [hF])
    (try refine nr ?_);(repeat first|refine nb_ ?_|refine nl_ ?_);refine endK.o [8] [0, 1] [] ?_;simp [hF, retK, covers, mpre, he, dTs, dNames]
theorem changes_ok (o : Bool) {s : Mt} (h : MtOk s) (t : Int) (fine : Bool) (ns : List ByteArray) (ex : Bool) (hn : ns.length ≤ 100) : Meets Try.prog 32 [dTs o s, dNames ns] (.cons (.ptr 0 [.d]) (.cons (avInt t) (.cons (avBool fine) (.cons (.sub 1 [] 0 ns.length ex) .nil))))
  fun av X κ => av = avInt (chgE s t fine ns) ∧ X = [dTs o s, dNames ns] ∧ κ = [] := by
 have hf := dFz_find s.fz t
 refine fb Try.func32 Try.ntmps32 [.tmp 8] fun w0 I0 F0 hF => ?_
 repeat first|refine n1 ?_|refine n2 ?_|refine n3 ?_|refine n4 ?_|refine n5 ?_|refine n6 ?_|refine n7 ?_|refine n8 ?_|refine n9 ?_|refine n0 ?_|refine ⟨⟨by omega, by omega⟩, ?_⟩|((first|refine rg 0 [0, 1, 2, 3] [0, 1, 2, 3] [] ?_|refine rg 1 [0, 1, 2, 3] [0, 1, 9] [] ?_|refine rg 2 [0, 1, 9] [9, 24] [(2, 17)] ?_|refine rg 3 [] [8] [] ?_|refine rg 4 [9] [8] [] ?_|refine nc ?_);simp (maxSteps := 1000000) [hF])
 refine (asked_ok o h t fine ns ex hn).go [(0, []), (1, [])] (by simp (maxSteps := 1000000) [hF, dTs, dNames]) ?_;rintro av X κ ⟨rfl, rfl, rfl⟩;simp (maxSteps := 1000000) [hF, dTs, dNames]
 by_cases h0 : askE s t fine ns = 0
 ·cases hg : aget s.fz t with
  | none =>
   rw [hg] at hf
   simp only [Option.map_none] at hf
   have he : chgE s t fine ns = 0 := by simp [chgE, h0, frz, hg]
   repeat first|refine n1 ?_|refine n2 ?_|refine n3 ?_|refine n4 ?_|refine n5 ?_|refine n6 ?_|refine n7 ?_|refine n8 ?_|refine n9 ?_|refine n0 ?_|refine ⟨⟨by omega, by omega⟩, ?_⟩|((first|refine rg 0 [0, 1, 2, 3] [0, 1, 2, 3] [] ?_|refine rg 1 [0, 1, 2, 3] [0, 1, 9] [] ?_|refine rg 2 [0, 1, 9] [9, 24] [(2, 17)] ?_|refine rg 3 [] [8] [] ?_|refine rg 4 [9] [8] [] ?_|refine nc ?_);simp (maxSteps := 1000000) [hF, dTs, dNames, h0, hf])
   (try refine nr ?_);(repeat first|refine nb_ ?_|refine nl_ ?_);refine endK.o [8] [0, 1] [] ?_;simp [hF, retK, covers, mpre, dTs, he, dNames]
  | some b =>
   rw [hg] at hf
   simp only [Option.map_some] at hf
   cases b with
   | true =>
    have he : chgE s t fine ns = 13 := by simp [chgE, h0, frz, hg]
    repeat first|refine n1 ?_|refine n2 ?_|refine n3 ?_|refine n4 ?_|refine n5 ?_|refine n6 ?_|refine n7 ?_|refine n8 ?_|refine n9 ?_|refine n0 ?_|refine ⟨⟨by omega, by omega⟩, ?_⟩|((first|refine rg 0 [0, 1, 2, 3] [0, 1, 2, 3] [] ?_|refine rg 1 [0, 1, 2, 3] [0, 1, 9] [] ?_|refine rg 2 [0, 1, 9] [9, 24] [(2, 17)] ?_|refine rg 3 [] [8] [] ?_|refine rg 4 [9] [8] [] ?_|refine nc ?_);simp (maxSteps := 1000000) [hF, dTs, dNames, h0, hf])
    (try refine nr ?_);(repeat first|refine nb_ ?_|refine nl_ ?_);refine endK.o [8] [0, 1] [] ?_;simp [hF, retK, covers, mpre, dTs, he, dNames]
   | false =>
    have he : chgE s t fine ns = 0 := by simp [chgE, h0, frz, hg]
    repeat first|refine n1 ?_|refine n2 ?_|refine n3 ?_|refine n4 ?_|refine n5 ?_|refine n6 ?_|refine n7 ?_|refine n8 ?_|refine n9 ?_|refine n0 ?_|refine ⟨⟨by omega, by omega⟩, ?_⟩|((first|refine rg 0 [0, 1, 2, 3] [0, 1, 2, 3] [] ?_|refine rg 1 [0, 1, 2, 3] [0, 1, 9] [] ?_|refine rg 2 [0, 1, 9] [9, 24] [(2, 17)] ?_|refine rg 3 [] [8] [] ?_|refine rg 4 [9] [8] [] ?_|refine nc ?_);simp (maxSteps := 1000000) [hF, dTs, dNames, h0, hf])
    (try refine nr ?_);(repeat first|refine nb_ ?_|refine nl_ ?_);refine endK.o [8] [0, 1] [] ?_;simp [hF, retK, covers, mpre, dTs, he, dNames]
 ·have he : chgE s t fine ns = askE s t fine ns := by simp [chgE, h0]
  repeat first|refine n1 ?_|refine n2 ?_|refine n3 ?_|refine n4 ?_|refine n5 ?_|refine n6 ?_|refine n7 ?_|refine n8 ?_|refine n9 ?_|refine n0 ?_|refine ⟨⟨by omega, by omega⟩, ?_⟩|((first|refine rg 0 [0, 1, 2, 3] [0, 1, 2, 3] [] ?_|refine rg 1 [0, 1, 2, 3] [0, 1, 9] [] ?_|refine rg 2 [0, 1, 9] [9, 24] [(2, 17)] ?_|refine rg 3 [] [8] [] ?_|refine rg 4 [9] [8] [] ?_|refine nc ?_);simp (maxSteps := 1000000) [hF, dTs, dNames, h0])
  (try refine nr ?_);(repeat first|refine nb_ ?_|refine nl_ ?_);refine endK.o [8] [0, 1] [] ?_;simp [hF, retK, covers, mpre, dTs, he, dNames]
abbrev avEnt (e : En) : AV := .agg (.cons (avInt e.body) (.cons (avInt e.vis) (.cons (avInt e.home) (.cons (.val (.string e.known)) .nil))))
abbrev avKey (a b : Int) : AV := .agg (.cons (avInt a) (.cons (avInt b) .nil))
theorem putT {s : Mt} {a b : Int} {n : ByteArray} {e : En} {t : Tb} (l : List (Key × Tb)) (h : aget l (a, b) = some t) (hl : aput l (a, b) (aput t n e) = (putOf s (a, b) n e).tabs) : l.set (aidx l (a, b)) ((a, b), aput t n e) = (putOf s (a, b) n e).tabs := by
 rw [← hl, aput_at h]
theorem put_ok (s : Mt) (a b : Int) (n : ByteArray) (e : En) : Meets Try.prog 33 [dTs true s] (.cons (.ptr 0 [.d]) (.cons (avKey a b) (.cons (.val (.string n)) (.cons (avEnt e) .nil))))
  fun av X κ => av = .tup .nil ∧ X = [dTs true (putOf s (a, b) n e)] ∧ κ = [(0, [.d])] := by
 have hfind := dRows_find true s.tabs a b
 refine fbS Try.func33 Try.ntmps33 [] fun w0 I0 F0 hF => ?_
 cases hg : aget s.tabs (a, b) with
 | none =>
  rw [hg] at hfind
  simp only [Option.map_none] at hfind
  have hput : mput (.agg #[.int .i64 a, .int .i64 b]) (.map true () .nil) (dRows true s.tabs) = dRows true (aput s.tabs (a, b) []) := dRows_put true s.tabs a b []
  have hg2 : aget (aput s.tabs (a, b) []) (a, b) = some [] := by rw [aget_put, if_pos rfl]
  have hpe : aput (aput s.tabs (a, b) []) (a, b) (aput [] n e) = (putOf s (a, b) n e).tabs := by
   show _ = aput s.tabs (a, b) (aput ((aget s.tabs (a, b)).getD []) n e)
   rw [hg]
   exact aput_put _ _ _ _
  have hset := putT (s := s) (n := n) (e := e) _ hg2 hpe
  have hlt := aidx_lt hg2
  have hnth := dRows_nth true hlt
  have hi := hlt.1
  obtain ⟨hX, hX2⟩ := dRowsX_find (o := true) hg2 (.junk ())
  have hnp := dNs_put [] n e
  have hmap := dRowsX_map true (aput s.tabs (a, b) []) (aidx (aput s.tabs (a, b) []) (a, b)) (a, b) (aput [] n e)
  rw [hset] at hmap
  have hxn := dRowsX_nth (o := true) hi (a, b) (.junk ())
  simp only [dEnt, dNs_nil] at hnp
  simp only [dNs_nil] at hnth
  generalize aput s.tabs (a, b) [] = l at *
  repeat first|refine n1 ?_|refine n2 ?_|refine n3 ?_|refine n4 ?_|refine n5 ?_|refine n6 ?_|refine n7 ?_|refine n8 ?_|refine n9 ?_|refine n0 ?_|refine ⟨⟨by omega, by omega⟩, ?_⟩|((first|refine rg 0 [0, 1, 2, 3] [0, 2, 5, 7] [] ?_|(refine dr 1 0 [0, 2, 5, 7] [0, 2, 5, 7, 14] [] [⟨0, 1, 256, 5⟩, ⟨1, 256, 512, 5⟩, ⟨2, 512, 1024, 5⟩, ⟨4, 1024, 2048, 6⟩, ⟨0, 32, 4096, 6⟩, ⟨24, 6144, 8192, 4⟩, ⟨32, 8192, 16384, 5⟩] (.take 0 (.take 1 (.take 2 (.take 3 (.take 4 (.fork (.alt 5 (.take 6 (.done)) (.nil)))))))) (.run [0, 1, 2, 3, 4, 5, 6] (.done)) ?_;simp only [drs])|(refine dr 3 0 [0, 2, 5, 7] [] [] [⟨0, 1, 2097152, 5⟩, ⟨1, 2097152, 4194304, 5⟩, ⟨2, 4194304, 8388608, 5⟩, ⟨4, 8388608, 16777216, 6⟩, ⟨0, 32, 33554432, 6⟩, ⟨24, 50331648, 67108864, 4⟩, ⟨0, 4, 134217728, 5⟩, ⟨0, 128, 268435456, 6⟩, ⟨255, 469762048, 0, 0⟩] (.take 0 (.take 1 (.take 2 (.take 3 (.take 4 (.take 6 (.take 7 (.fork (.alt 5 (.fork (.alt 8 (.done) (.nil))) (.nil)))))))))) (.run [0, 1, 2, 3, 4, 6, 7, 5, 8] (.done)) ?_;simp only [drs])|refine nc ?_);simp (maxSteps := 1000000) [hF, dTs, hfind])
  refine ghostL 0 [.d, .f 1] ?_;simp (maxSteps := 1000000) [hF, St.lift, AV.lift, liftPl, stripP, nodeAV, isNode, dTs]
  repeat first|refine n1 ?_|refine n2 ?_|refine n3 ?_|refine n4 ?_|refine n5 ?_|refine n6 ?_|refine n7 ?_|refine n8 ?_|refine n9 ?_|refine n0 ?_|refine ⟨⟨by omega, by omega⟩, ?_⟩|((first|refine rg 0 [0, 1, 2, 3] [0, 2, 5, 7] [] ?_|(refine dr 1 0 [0, 2, 5, 7] [0, 2, 5, 7, 14] [] [⟨0, 1, 256, 5⟩, ⟨1, 256, 512, 5⟩, ⟨2, 512, 1024, 5⟩, ⟨4, 1024, 2048, 6⟩, ⟨0, 32, 4096, 6⟩, ⟨24, 6144, 8192, 4⟩, ⟨32, 8192, 16384, 5⟩] (.take 0 (.take 1 (.take 2 (.take 3 (.take 4 (.fork (.alt 5 (.take 6 (.done)) (.nil)))))))) (.run [0, 1, 2, 3, 4, 5, 6] (.done)) ?_;simp only [drs])|(refine dr 2 0 [0, 2, 5, 7] [0, 2, 5, 7] [] [⟨0, 1, 32768, 5⟩, ⟨1, 32768, 65536, 5⟩, ⟨2, 65536, 131072, 5⟩, ⟨4, 131072, 262144, 6⟩, ⟨0, 32, 524288, 6⟩, ⟨0, 0, 1048576, 4⟩, ⟨63, 1835008, 0, 0⟩] (.take 0 (.take 1 (.take 2 (.take 3 (.take 4 (.fork (.alt 5 (.fork (.alt 6 (.done) (.nil))) (.nil)))))))) (.run [0, 1, 2, 3, 4, 5, 6] (.done)) ?_;simp only [drs])|refine nc ?_);simp (maxSteps := 1000000) [hF, hput])
  refine ghostL 3 [.i (aidx l (a, b)), .f 1] ?_;simp (maxSteps := 1000000) [hF, St.lift, AV.lift, liftPl, stripP, nodeAV, isNode, hnth, hi]
  repeat first|refine n1 ?_|refine n2 ?_|refine n3 ?_|refine n4 ?_|refine n5 ?_|refine n6 ?_|refine n7 ?_|refine n8 ?_|refine n9 ?_|refine n0 ?_|refine ⟨⟨by omega, by omega⟩, ?_⟩|((first|refine rg 0 [0, 1, 2, 3] [0, 2, 5, 7] [] ?_|(refine dr 1 0 [0, 2, 5, 7] [0, 2, 5, 7, 14] [] [⟨0, 1, 256, 5⟩, ⟨1, 256, 512, 5⟩, ⟨2, 512, 1024, 5⟩, ⟨4, 1024, 2048, 6⟩, ⟨0, 32, 4096, 6⟩, ⟨24, 6144, 8192, 4⟩, ⟨32, 8192, 16384, 5⟩] (.take 0 (.take 1 (.take 2 (.take 3 (.take 4 (.fork (.alt 5 (.take 6 (.done)) (.nil)))))))) (.run [0, 1, 2, 3, 4, 5, 6] (.done)) ?_;simp only [drs])|(refine dr 2 0 [0, 2, 5, 7] [0, 2, 5, 7] [] [⟨0, 1, 32768, 5⟩, ⟨1, 32768, 65536, 5⟩, ⟨2, 65536, 131072, 5⟩, ⟨4, 131072, 262144, 6⟩, ⟨0, 32, 524288, 6⟩, ⟨0, 0, 1048576, 4⟩, ⟨63, 1835008, 0, 0⟩] (.take 0 (.take 1 (.take 2 (.take 3 (.take 4 (.fork (.alt 5 (.fork (.alt 6 (.done) (.nil))) (.nil)))))))) (.run [0, 1, 2, 3, 4, 5, 6] (.done)) ?_;simp only [drs])|(refine dr 3 0 [0, 2, 5, 7] [] [] [⟨0, 1, 2097152, 5⟩, ⟨1, 2097152, 4194304, 5⟩, ⟨2, 4194304, 8388608, 5⟩, ⟨4, 8388608, 16777216, 6⟩, ⟨0, 32, 33554432, 6⟩, ⟨24, 50331648, 67108864, 4⟩, ⟨0, 4, 134217728, 5⟩, ⟨0, 128, 268435456, 6⟩, ⟨255, 469762048, 0, 0⟩] (.take 0 (.take 1 (.take 2 (.take 3 (.take 4 (.take 6 (.take 7 (.fork (.alt 5 (.fork (.alt 8 (.done) (.nil))) (.nil)))))))))) (.run [0, 1, 2, 3, 4, 6, 7, 5, 8] (.done)) ?_;simp only [drs])|refine nc ?_);simp (maxSteps := 1000000) [hF, dRowsX_eq, hX, hX2, hnp])
  (try refine nr ?_);(repeat first|refine nb_ ?_|refine nl_ ?_);refine endS.settle 3 [.i (aidx l (a, b)), .f 1] (.mp 5 []) (by simp) (by simp) (by simp [hF, Tk.tree, hi, dRowsX_set, hmap, hxn]) (by simp [hF, Tk.tree, hi, dRowsX_set, hmap, hxn]) ?_;simp [hF, St.settle, Tk.tree, hi, dRowsX_set, hmap, hxn]
  (try refine nr ?_);(repeat first|refine nb_ ?_|refine nl_ ?_);refine endS.settle 0 [.d, .f 1] (.mp 3 []) (by simp) (by simp) (by simp [hF, Tk.tree]) (by simp [hF, Tk.tree]) ?_;simp [hF, St.settle, Tk.tree]
  (try refine nr ?_);(repeat first|refine nb_ ?_|refine nl_ ?_);refine endS.of ?_;refine endK.o [] [0] [(0, [.d])] ?_;simp [hF, retK, covers, mpre, dTs]
 | some t =>
  rw [hg] at hfind
  simp only [Option.map_some] at hfind
  have hpe : aput s.tabs (a, b) (aput t n e) = (putOf s (a, b) n e).tabs := by
   show _ = aput s.tabs (a, b) (aput ((aget s.tabs (a, b)).getD []) n e)
   rw [hg]; rfl
  have hset := putT (s := s) (n := n) (e := e) _ hg hpe
  have hlt := aidx_lt hg
  have hnth := dRows_nth true hlt
  have hi := hlt.1
  obtain ⟨hX, hX2⟩ := dRowsX_find (o := true) hg (.junk ())
  have hnp := dNs_put t n e
  simp only [dEnt] at hnp
  have hmap := dRowsX_map true s.tabs (aidx s.tabs (a, b)) (a, b) (aput t n e)
  rw [hset] at hmap
  have hxn := dRowsX_nth (o := true) hi (a, b) (.junk ())
  repeat first|refine n1 ?_|refine n2 ?_|refine n3 ?_|refine n4 ?_|refine n5 ?_|refine n6 ?_|refine n7 ?_|refine n8 ?_|refine n9 ?_|refine n0 ?_|refine ⟨⟨by omega, by omega⟩, ?_⟩|((first|refine rg 0 [0, 1, 2, 3] [0, 2, 5, 7] [] ?_|(refine dr 1 0 [0, 2, 5, 7] [0, 2, 5, 7, 14] [] [⟨0, 1, 256, 5⟩, ⟨1, 256, 512, 5⟩, ⟨2, 512, 1024, 5⟩, ⟨4, 1024, 2048, 6⟩, ⟨0, 32, 4096, 6⟩, ⟨24, 6144, 8192, 4⟩, ⟨32, 8192, 16384, 5⟩] (.take 0 (.take 1 (.take 2 (.take 3 (.take 4 (.fork (.alt 5 (.take 6 (.done)) (.nil)))))))) (.run [0, 1, 2, 3, 4, 5, 6] (.done)) ?_;simp only [drs])|(refine dr 2 0 [0, 2, 5, 7] [0, 2, 5, 7] [] [⟨0, 1, 32768, 5⟩, ⟨1, 32768, 65536, 5⟩, ⟨2, 65536, 131072, 5⟩, ⟨4, 131072, 262144, 6⟩, ⟨0, 32, 524288, 6⟩, ⟨0, 0, 1048576, 4⟩, ⟨63, 1835008, 0, 0⟩] (.take 0 (.take 1 (.take 2 (.take 3 (.take 4 (.fork (.alt 5 (.fork (.alt 6 (.done) (.nil))) (.nil)))))))) (.run [0, 1, 2, 3, 4, 5, 6] (.done)) ?_;simp only [drs])|refine nc ?_);simp (maxSteps := 1000000) [hF, dTs, hfind])
  refine ghostL 0 [.d, .f 1] ?_;simp (maxSteps := 1000000) [hF, St.lift, AV.lift, liftPl, stripP, nodeAV, isNode, dTs]
  refine ghostL 3 [.i (aidx s.tabs (a, b)), .f 1] ?_;simp (maxSteps := 1000000) [hF, St.lift, AV.lift, liftPl, stripP, nodeAV, isNode, hnth, hi]
  repeat first|refine n1 ?_|refine n2 ?_|refine n3 ?_|refine n4 ?_|refine n5 ?_|refine n6 ?_|refine n7 ?_|refine n8 ?_|refine n9 ?_|refine n0 ?_|refine ⟨⟨by omega, by omega⟩, ?_⟩|((first|refine rg 0 [0, 1, 2, 3] [0, 2, 5, 7] [] ?_|(refine dr 1 0 [0, 2, 5, 7] [0, 2, 5, 7, 14] [] [⟨0, 1, 256, 5⟩, ⟨1, 256, 512, 5⟩, ⟨2, 512, 1024, 5⟩, ⟨4, 1024, 2048, 6⟩, ⟨0, 32, 4096, 6⟩, ⟨24, 6144, 8192, 4⟩, ⟨32, 8192, 16384, 5⟩] (.take 0 (.take 1 (.take 2 (.take 3 (.take 4 (.fork (.alt 5 (.take 6 (.done)) (.nil)))))))) (.run [0, 1, 2, 3, 4, 5, 6] (.done)) ?_;simp only [drs])|(refine dr 2 0 [0, 2, 5, 7] [0, 2, 5, 7] [] [⟨0, 1, 32768, 5⟩, ⟨1, 32768, 65536, 5⟩, ⟨2, 65536, 131072, 5⟩, ⟨4, 131072, 262144, 6⟩, ⟨0, 32, 524288, 6⟩, ⟨0, 0, 1048576, 4⟩, ⟨63, 1835008, 0, 0⟩] (.take 0 (.take 1 (.take 2 (.take 3 (.take 4 (.fork (.alt 5 (.fork (.alt 6 (.done) (.nil))) (.nil)))))))) (.run [0, 1, 2, 3, 4, 5, 6] (.done)) ?_;simp only [drs])|(refine dr 3 0 [0, 2, 5, 7] [] [] [⟨0, 1, 2097152, 5⟩, ⟨1, 2097152, 4194304, 5⟩, ⟨2, 4194304, 8388608, 5⟩, ⟨4, 8388608, 16777216, 6⟩, ⟨0, 32, 33554432, 6⟩, ⟨24, 50331648, 67108864, 4⟩, ⟨0, 4, 134217728, 5⟩, ⟨0, 128, 268435456, 6⟩, ⟨255, 469762048, 0, 0⟩] (.take 0 (.take 1 (.take 2 (.take 3 (.take 4 (.take 6 (.take 7 (.fork (.alt 5 (.fork (.alt 8 (.done) (.nil))) (.nil)))))))))) (.run [0, 1, 2, 3, 4, 6, 7, 5, 8] (.done)) ?_;simp only [drs])|refine nc ?_);simp (maxSteps := 1000000) [hF, dRowsX_eq, hX, hX2, hnp])
  (try refine nr ?_);(repeat first|refine nb_ ?_|refine nl_ ?_);refine endS.settle 3 [.i (aidx s.tabs (a, b)), .f 1] (.mp 4 []) (by simp) (by simp) (by simp [hF, Tk.tree, hi, dRowsX_set, hmap, hxn]) (by simp [hF, Tk.tree, hi, dRowsX_set, hmap, hxn]) ?_;simp [hF, St.settle, Tk.tree, hi, dRowsX_set, hmap, hxn]
  (try refine nr ?_);(repeat first|refine nb_ ?_|refine nl_ ?_);refine endS.settle 0 [.d, .f 1] (.mp 3 []) (by simp) (by simp) (by simp [hF, Tk.tree]) (by simp [hF, Tk.tree]) ?_;simp [hF, St.settle, Tk.tree]
  (try refine nr ?_);(repeat first|refine nb_ ?_|refine nl_ ?_);refine endS.of ?_;refine endK.o [] [0] [(0, [.d])] ?_;simp [hF, retK, covers, mpre, dTs]
theorem Define_ok {s : Mt} (h : MtOk s) (t : Int) (n : ByteArray) (b v : Int) : Meets Try.prog 10 [dTs true s] (.cons (.ptr 0 [.d]) (.cons (avInt t) (.cons (.val (.string n)) (.cons (avInt b) (.cons (avInt v) .nil)))))
  fun av X κ => av = avInt (defineOf s t n b v).2 ∧ X = [dTs true (defineOf s t n b v).1] ∧ κ = [(0, [.d])] := by
 refine fb Try.func10 Try.ntmps10 [.tmp 10] fun w0 I0 F0 hF => ?_
 obtain ⟨fine, hfine⟩ : ∃ f, f = (bodyB b && visB v) := ⟨_, rfl⟩
 have hch := changes_ok true h t fine [n] true (by simp)
 have hd : defineOf s t n b v = if chgE s t fine [n] = 0 then (putOf s (t, -1) n ⟨b, v, t, n⟩, 0) else (s, chgE s t fine [n]) := by rw [hfine]; rfl
 rw [hd]
 by_cases h1 : 0 ≤ b
 ·by_cases h2 : b ≤ 1000000
  ·by_cases h3 : 0 ≤ v
   ·have hv : decide (v ≤ 2) = fine := by simp [hfine, bodyB, visB, h1, h2, h3]
    repeat first|refine n1 ?_|refine n2 ?_|refine n3 ?_|refine n4 ?_|refine n5 ?_|refine n6 ?_|refine n7 ?_|refine n8 ?_|refine n9 ?_|refine n0 ?_|refine ⟨⟨by omega, by omega⟩, ?_⟩|((first|refine rg 0 [0, 1, 2, 3, 4] [0, 1, 2, 3, 4] [] ?_|refine rg 1 [0, 1, 2, 3, 4] [0, 1, 2, 3, 4, 11] [(4, 16), (8, 20), (12, 24)] ?_|refine rg 2 [0, 1, 2, 3, 4, 11] [0, 1, 2, 3, 4, 11, 32] [] ?_|refine rg 3 [0, 1, 2, 3, 4, 11] [11] [] ?_|refine rg 4 [11] [10] [] ?_|refine nc ?_);simp (maxSteps := 1000000) [hF, h1, h2, h3, hv])
    clear hd hfine hv
    refine (hch).go [(0, []), (1, [])] (by simp (maxSteps := 1000000) [hF, dTs, dNames, strs_one]) ?_;rintro av X κ ⟨rfl, rfl, rfl⟩;simp (maxSteps := 1000000) [hF, dTs, dNames, strs_one]
    by_cases h0 : chgE s t fine [n] = 0
    ·repeat first|refine n1 ?_|refine n2 ?_|refine n3 ?_|refine n4 ?_|refine n5 ?_|refine n6 ?_|refine n7 ?_|refine n8 ?_|refine n9 ?_|refine n0 ?_|refine ⟨⟨by omega, by omega⟩, ?_⟩|((first|refine rg 0 [0, 1, 2, 3, 4] [0, 1, 2, 3, 4] [] ?_|refine rg 1 [0, 1, 2, 3, 4] [0, 1, 2, 3, 4, 11] [(4, 16), (8, 20), (12, 24)] ?_|refine rg 2 [0, 1, 2, 3, 4, 11] [0, 1, 2, 3, 4, 11, 32] [] ?_|refine rg 3 [0, 1, 2, 3, 4, 11] [11] [] ?_|refine rg 4 [11] [10] [] ?_|refine nc ?_);simp (maxSteps := 1000000) [hF, h0])
     refine (put_ok s t (-1) n ⟨b, v, t, n⟩).go [(0, [])] (by simp (maxSteps := 1000000) [hF, dTs]) ?_;rintro av X κ ⟨rfl, rfl, rfl⟩;simp (maxSteps := 1000000) [hF, dTs]
     repeat first|refine n1 ?_|refine n2 ?_|refine n3 ?_|refine n4 ?_|refine n5 ?_|refine n6 ?_|refine n7 ?_|refine n8 ?_|refine n9 ?_|refine n0 ?_|refine ⟨⟨by omega, by omega⟩, ?_⟩|((first|refine rg 0 [0, 1, 2, 3, 4] [0, 1, 2, 3, 4] [] ?_|refine rg 1 [0, 1, 2, 3, 4] [0, 1, 2, 3, 4, 11] [(4, 16), (8, 20), (12, 24)] ?_|refine rg 2 [0, 1, 2, 3, 4, 11] [0, 1, 2, 3, 4, 11, 32] [] ?_|refine rg 3 [0, 1, 2, 3, 4, 11] [11] [] ?_|refine rg 4 [11] [10] [] ?_|refine nc ?_);simp (maxSteps := 1000000) [hF])
     (try refine nr ?_);(repeat first|refine nb_ ?_|refine nl_ ?_);refine endK.o [10] [0] [(0, [.d])] ?_;simp [hF, retK, covers, mpre, dTs, h0]
    ·repeat first|refine n1 ?_|refine n2 ?_|refine n3 ?_|refine n4 ?_|refine n5 ?_|refine n6 ?_|refine n7 ?_|refine n8 ?_|refine n9 ?_|refine n0 ?_|refine ⟨⟨by omega, by omega⟩, ?_⟩|((first|refine rg 0 [0, 1, 2, 3, 4] [0, 1, 2, 3, 4] [] ?_|refine rg 1 [0, 1, 2, 3, 4] [0, 1, 2, 3, 4, 11] [(4, 16), (8, 20), (12, 24)] ?_|refine rg 2 [0, 1, 2, 3, 4, 11] [0, 1, 2, 3, 4, 11, 32] [] ?_|refine rg 3 [0, 1, 2, 3, 4, 11] [11] [] ?_|refine rg 4 [11] [10] [] ?_|refine nc ?_);simp (maxSteps := 1000000) [hF, h0])
     (try refine nr ?_);(repeat first|refine nb_ ?_|refine nl_ ?_);refine endK.o [10] [0] [(0, [.d])] ?_;simp [hF, retK, covers, mpre, dTs, h0]
   ·have hv : fine = false := by simp [hfine, bodyB, visB, h3]
    subst hv
    have h0 : ¬ chgE s t false [n] = 0 := by simp [chgE, askE]
    repeat first|refine n1 ?_|refine n2 ?_|refine n3 ?_|refine n4 ?_|refine n5 ?_|refine n6 ?_|refine n7 ?_|refine n8 ?_|refine n9 ?_|refine n0 ?_|refine ⟨⟨by omega, by omega⟩, ?_⟩|((first|refine rg 0 [0, 1, 2, 3, 4] [0, 1, 2, 3, 4] [] ?_|refine rg 1 [0, 1, 2, 3, 4] [0, 1, 2, 3, 4, 11] [(4, 16), (8, 20), (12, 24)] ?_|refine rg 2 [0, 1, 2, 3, 4, 11] [0, 1, 2, 3, 4, 11, 32] [] ?_|refine rg 3 [0, 1, 2, 3, 4, 11] [11] [] ?_|refine rg 4 [11] [10] [] ?_|refine nc ?_);simp (maxSteps := 1000000) [hF, h1, h2, h3])
    refine (hch).go [(0, []), (1, [])] (by simp (maxSteps := 1000000) [hF, dTs, dNames, strs_one]) ?_;rintro av X κ ⟨rfl, rfl, rfl⟩;simp (maxSteps := 1000000) [hF, dTs, dNames, strs_one]
    repeat first|refine n1 ?_|refine n2 ?_|refine n3 ?_|refine n4 ?_|refine n5 ?_|refine n6 ?_|refine n7 ?_|refine n8 ?_|refine n9 ?_|refine n0 ?_|refine ⟨⟨by omega, by omega⟩, ?_⟩|((first|refine rg 0 [0, 1, 2, 3, 4] [0, 1, 2, 3, 4] [] ?_|refine rg 1 [0, 1, 2, 3, 4] [0, 1, 2, 3, 4, 11] [(4, 16), (8, 20), (12, 24)] ?_|refine rg 2 [0, 1, 2, 3, 4, 11] [0, 1, 2, 3, 4, 11, 32] [] ?_|refine rg 3 [0, 1, 2, 3, 4, 11] [11] [] ?_|refine rg 4 [11] [10] [] ?_|refine nc ?_);simp (maxSteps := 1000000) [hF, h0])
    (try refine nr ?_);(repeat first|refine nb_ ?_|refine nl_ ?_);refine endK.o [10] [0] [(0, [.d])] ?_;simp [hF, retK, covers, mpre, dTs, h0]
  ·have hv : fine = false := by simp [hfine, bodyB, visB, h2]
   subst hv
   have h0 : ¬ chgE s t false [n] = 0 := by simp [chgE, askE]
   repeat first|refine n1 ?_|refine n2 ?_|refine n3 ?_|refine n4 ?_|refine n5 ?_|refine n6 ?_|refine n7 ?_|refine n8 ?_|refine n9 ?_|refine n0 ?_|refine ⟨⟨by omega, by omega⟩, ?_⟩|((first|refine rg 0 [0, 1, 2, 3, 4] [0, 1, 2, 3, 4] [] ?_|refine rg 1 [0, 1, 2, 3, 4] [0, 1, 2, 3, 4, 11] [(4, 16), (8, 20), (12, 24)] ?_|refine rg 2 [0, 1, 2, 3, 4, 11] [0, 1, 2, 3, 4, 11, 32] [] ?_|refine rg 3 [0, 1, 2, 3, 4, 11] [11] [] ?_|refine rg 4 [11] [10] [] ?_|refine nc ?_);simp (maxSteps := 1000000) [hF, h1, h2])
   refine (hch).go [(0, []), (1, [])] (by simp (maxSteps := 1000000) [hF, dTs, dNames, strs_one]) ?_;rintro av X κ ⟨rfl, rfl, rfl⟩;simp (maxSteps := 1000000) [hF, dTs, dNames, strs_one]
   repeat first|refine n1 ?_|refine n2 ?_|refine n3 ?_|refine n4 ?_|refine n5 ?_|refine n6 ?_|refine n7 ?_|refine n8 ?_|refine n9 ?_|refine n0 ?_|refine ⟨⟨by omega, by omega⟩, ?_⟩|((first|refine rg 0 [0, 1, 2, 3, 4] [0, 1, 2, 3, 4] [] ?_|refine rg 1 [0, 1, 2, 3, 4] [0, 1, 2, 3, 4, 11] [(4, 16), (8, 20), (12, 24)] ?_|refine rg 2 [0, 1, 2, 3, 4, 11] [0, 1, 2, 3, 4, 11, 32] [] ?_|refine rg 3 [0, 1, 2, 3, 4, 11] [11] [] ?_|refine rg 4 [11] [10] [] ?_|refine nc ?_);simp (maxSteps := 1000000) [hF, h0])
   (try refine nr ?_);(repeat first|refine nb_ ?_|refine nl_ ?_);refine endK.o [10] [0] [(0, [.d])] ?_;simp [hF, retK, covers, mpre, dTs, h0]
 ·have hv : fine = false := by simp [hfine, bodyB, visB, h1]
  subst hv
  have h0 : ¬ chgE s t false [n] = 0 := by simp [chgE, askE]
  repeat first|refine n1 ?_|refine n2 ?_|refine n3 ?_|refine n4 ?_|refine n5 ?_|refine n6 ?_|refine n7 ?_|refine n8 ?_|refine n9 ?_|refine n0 ?_|refine ⟨⟨by omega, by omega⟩, ?_⟩|((first|refine rg 0 [0, 1, 2, 3, 4] [0, 1, 2, 3, 4] [] ?_|refine rg 1 [0, 1, 2, 3, 4] [0, 1, 2, 3, 4, 11] [(4, 16), (8, 20), (12, 24)] ?_|refine rg 2 [0, 1, 2, 3, 4, 11] [0, 1, 2, 3, 4, 11, 32] [] ?_|refine rg 3 [0, 1, 2, 3, 4, 11] [11] [] ?_|refine rg 4 [11] [10] [] ?_|refine nc ?_);simp (maxSteps := 1000000) [hF, h1])
  refine (hch).go [(0, []), (1, [])] (by simp (maxSteps := 1000000) [hF, dTs, dNames, strs_one]) ?_;rintro av X κ ⟨rfl, rfl, rfl⟩;simp (maxSteps := 1000000) [hF, dTs, dNames, strs_one]
  repeat first|refine n1 ?_|refine n2 ?_|refine n3 ?_|refine n4 ?_|refine n5 ?_|refine n6 ?_|refine n7 ?_|refine n8 ?_|refine n9 ?_|refine n0 ?_|refine ⟨⟨by omega, by omega⟩, ?_⟩|((first|refine rg 0 [0, 1, 2, 3, 4] [0, 1, 2, 3, 4] [] ?_|refine rg 1 [0, 1, 2, 3, 4] [0, 1, 2, 3, 4, 11] [(4, 16), (8, 20), (12, 24)] ?_|refine rg 2 [0, 1, 2, 3, 4, 11] [0, 1, 2, 3, 4, 11, 32] [] ?_|refine rg 3 [0, 1, 2, 3, 4, 11] [11] [] ?_|refine rg 4 [11] [10] [] ?_|refine nc ?_);simp (maxSteps := 1000000) [hF, h0])
  (try refine nr ?_);(repeat first|refine nb_ ?_|refine nl_ ?_);refine endK.o [10] [0] [(0, [.d])] ?_;simp [hF, retK, covers, mpre, dTs, h0]
theorem Refine_ok {s : Mt} (h : MtOk s) (m t : Int) (n : ByteArray) (b : Int) : Meets Try.prog 11 [dTs true s] (.cons (.ptr 0 [.d]) (.cons (avInt m) (.cons (avInt t) (.cons (.val (.string n)) (.cons (avInt b) .nil)))))
  fun av X κ => av = avInt (refineOf s m t n b).2 ∧ X = [dTs true (refineOf s m t n b).1] ∧ κ = [(0, [.d])] := by
 refine fb Try.func11 Try.ntmps11 [.tmp 10] fun w0 I0 F0 hF => ?_
 obtain ⟨fine, hfine⟩ : ∃ f, f = (modB s m && bodyB b) := ⟨_, rfl⟩
 have hch := asked_ok true h t fine [n] true (by simp)
 have hd : refineOf s m t n b = if askE s t fine [n] = 0 then (putOf s (t, m) n ⟨b, 0, t, n⟩, 0) else (s, askE s t fine [n]) := by rw [hfine]; rfl
 rw [hd]
 repeat first|refine n1 ?_|refine n2 ?_|refine n3 ?_|refine n4 ?_|refine n5 ?_|refine n6 ?_|refine n7 ?_|refine n8 ?_|refine n9 ?_|refine n0 ?_|refine ⟨⟨by omega, by omega⟩, ?_⟩|((first|refine rg 0 [0, 1, 2, 3, 4] [0, 1, 2, 3, 4] [] ?_|refine rg 1 [0, 1, 2, 3, 4] [0, 1, 2, 3, 4, 11] [(5, 17), (10, 22), (14, 26)] ?_|refine rg 2 [0, 1, 2, 3, 4, 11] [0, 1, 2, 3, 4, 11, 34] [] ?_|refine rg 3 [0, 1, 2, 3, 4, 11] [11] [] ?_|refine rg 4 [11] [10] [] ?_|refine nc ?_);simp (maxSteps := 1000000) [hF])
 refine (none_ok true s).go [(0, [])] (by simp (maxSteps := 1000000) [hF, dTs]) ?_;rintro av X κ ⟨rfl, rfl, rfl⟩;simp (maxSteps := 1000000) [hF, dTs]
 cases hm : modB s m with
 | false =>
  have hv : fine = false := by simp [hfine, hm]
  subst hv
  have h0 : ¬ askE s t false [n] = 0 := by simp [askE]
  refine (mod_ok true h m).go [(0, [])] (by simp (maxSteps := 1000000) [hF, dTs, hm]) ?_;rintro av X κ ⟨rfl, rfl, rfl⟩;simp (maxSteps := 1000000) [hF, dTs, hm]
  refine (hch).go [(0, []), (1, [])] (by simp (maxSteps := 1000000) [hF, dTs, dNames, strs_one]) ?_;rintro av X κ ⟨rfl, rfl, rfl⟩;simp (maxSteps := 1000000) [hF, dTs, dNames, strs_one]
  repeat first|refine n1 ?_|refine n2 ?_|refine n3 ?_|refine n4 ?_|refine n5 ?_|refine n6 ?_|refine n7 ?_|refine n8 ?_|refine n9 ?_|refine n0 ?_|refine ⟨⟨by omega, by omega⟩, ?_⟩|((first|refine rg 0 [0, 1, 2, 3, 4] [0, 1, 2, 3, 4] [] ?_|refine rg 1 [0, 1, 2, 3, 4] [0, 1, 2, 3, 4, 11] [(5, 17), (10, 22), (14, 26)] ?_|refine rg 2 [0, 1, 2, 3, 4, 11] [0, 1, 2, 3, 4, 11, 34] [] ?_|refine rg 3 [0, 1, 2, 3, 4, 11] [11] [] ?_|refine rg 4 [11] [10] [] ?_|refine nc ?_);simp (maxSteps := 1000000) [hF, h0])
  (try refine nr ?_);(repeat first|refine nb_ ?_|refine nl_ ?_);refine endK.o [10] [0] [(0, [.d])] ?_;simp [hF, retK, covers, mpre, dTs, h0]
 | true =>
  by_cases h1 : 0 ≤ b
  ·have hv : decide (b ≤ 1000000) = fine := by simp [hfine, hm, bodyB, h1]
   refine (mod_ok true h m).go [(0, [])] (by simp (maxSteps := 1000000) [hF, dTs, hm, h1, hv]) ?_;rintro av X κ ⟨rfl, rfl, rfl⟩;simp (maxSteps := 1000000) [hF, dTs, hm, h1, hv]
   clear hd hfine hv
   refine (hch).go [(0, []), (1, [])] (by simp (maxSteps := 1000000) [hF, dTs, dNames, strs_one]) ?_;rintro av X κ ⟨rfl, rfl, rfl⟩;simp (maxSteps := 1000000) [hF, dTs, dNames, strs_one]
   by_cases h0 : askE s t fine [n] = 0
   ·repeat first|refine n1 ?_|refine n2 ?_|refine n3 ?_|refine n4 ?_|refine n5 ?_|refine n6 ?_|refine n7 ?_|refine n8 ?_|refine n9 ?_|refine n0 ?_|refine ⟨⟨by omega, by omega⟩, ?_⟩|((first|refine rg 0 [0, 1, 2, 3, 4] [0, 1, 2, 3, 4] [] ?_|refine rg 1 [0, 1, 2, 3, 4] [0, 1, 2, 3, 4, 11] [(5, 17), (10, 22), (14, 26)] ?_|refine rg 2 [0, 1, 2, 3, 4, 11] [0, 1, 2, 3, 4, 11, 34] [] ?_|refine rg 3 [0, 1, 2, 3, 4, 11] [11] [] ?_|refine rg 4 [11] [10] [] ?_|refine nc ?_);simp (maxSteps := 1000000) [hF, h0])
    refine (put_ok s t m n ⟨b, 0, t, n⟩).go [(0, [])] (by simp (maxSteps := 1000000) [hF, dTs]) ?_;rintro av X κ ⟨rfl, rfl, rfl⟩;simp (maxSteps := 1000000) [hF, dTs]
    repeat first|refine n1 ?_|refine n2 ?_|refine n3 ?_|refine n4 ?_|refine n5 ?_|refine n6 ?_|refine n7 ?_|refine n8 ?_|refine n9 ?_|refine n0 ?_|refine ⟨⟨by omega, by omega⟩, ?_⟩|((first|refine rg 0 [0, 1, 2, 3, 4] [0, 1, 2, 3, 4] [] ?_|refine rg 1 [0, 1, 2, 3, 4] [0, 1, 2, 3, 4, 11] [(5, 17), (10, 22), (14, 26)] ?_|refine rg 2 [0, 1, 2, 3, 4, 11] [0, 1, 2, 3, 4, 11, 34] [] ?_|refine rg 3 [0, 1, 2, 3, 4, 11] [11] [] ?_|refine rg 4 [11] [10] [] ?_|refine nc ?_);simp (maxSteps := 1000000) [hF])
    (try refine nr ?_);(repeat first|refine nb_ ?_|refine nl_ ?_);refine endK.o [10] [0] [(0, [.d])] ?_;simp [hF, retK, covers, mpre, dTs, h0]
   ·repeat first|refine n1 ?_|refine n2 ?_|refine n3 ?_|refine n4 ?_|refine n5 ?_|refine n6 ?_|refine n7 ?_|refine n8 ?_|refine n9 ?_|refine n0 ?_|refine ⟨⟨by omega, by omega⟩, ?_⟩|((first|refine rg 0 [0, 1, 2, 3, 4] [0, 1, 2, 3, 4] [] ?_|refine rg 1 [0, 1, 2, 3, 4] [0, 1, 2, 3, 4, 11] [(5, 17), (10, 22), (14, 26)] ?_|refine rg 2 [0, 1, 2, 3, 4, 11] [0, 1, 2, 3, 4, 11, 34] [] ?_|refine rg 3 [0, 1, 2, 3, 4, 11] [11] [] ?_|refine rg 4 [11] [10] [] ?_|refine nc ?_);simp (maxSteps := 1000000) [hF, h0])
    (try refine nr ?_);(repeat first|refine nb_ ?_|refine nl_ ?_);refine endK.o [10] [0] [(0, [.d])] ?_;simp [hF, retK, covers, mpre, dTs, h0]
  ·have hv : fine = false := by simp [hfine, bodyB, h1]
   subst hv
   have h0 : ¬ askE s t false [n] = 0 := by simp [askE]
   refine (mod_ok true h m).go [(0, [])] (by simp (maxSteps := 1000000) [hF, dTs, hm, h1]) ?_;rintro av X κ ⟨rfl, rfl, rfl⟩;simp (maxSteps := 1000000) [hF, dTs, hm, h1]
   refine (hch).go [(0, []), (1, [])] (by simp (maxSteps := 1000000) [hF, dTs, dNames, strs_one]) ?_;rintro av X κ ⟨rfl, rfl, rfl⟩;simp (maxSteps := 1000000) [hF, dTs, dNames, strs_one]
   repeat first|refine n1 ?_|refine n2 ?_|refine n3 ?_|refine n4 ?_|refine n5 ?_|refine n6 ?_|refine n7 ?_|refine n8 ?_|refine n9 ?_|refine n0 ?_|refine ⟨⟨by omega, by omega⟩, ?_⟩|((first|refine rg 0 [0, 1, 2, 3, 4] [0, 1, 2, 3, 4] [] ?_|refine rg 1 [0, 1, 2, 3, 4] [0, 1, 2, 3, 4, 11] [(5, 17), (10, 22), (14, 26)] ?_|refine rg 2 [0, 1, 2, 3, 4, 11] [0, 1, 2, 3, 4, 11, 34] [] ?_|refine rg 3 [0, 1, 2, 3, 4, 11] [11] [] ?_|refine rg 4 [11] [10] [] ?_|refine nc ?_);simp (maxSteps := 1000000) [hF, h0])
   (try refine nr ?_);(repeat first|refine nb_ ?_|refine nl_ ?_);refine endK.o [10] [0] [(0, [.d])] ?_;simp [hF, retK, covers, mpre, dTs, h0]
def dKs (l : List Key) : D := sq (l.map fun k => .agg (.cons (.val (.int .i64 k.1)) (.cons (.val (.int .i64 k.2)) .nil)))
def dKeys (l : List Key) : D := .sl true () 2 (dKs l)
@[simp high] theorem head_dKeys (l : List Key) : isHead (dKeys l) = true := by rw [dKeys, isHead]
@[simp] theorem dKs_len (l : List Key) : (dKs l).len = l.length := by simp [dKs]
theorem dKs_nth {l : List Key} {i : Nat} (h : i < l.length) : (dKs l).nth i = .agg (.cons (.val (.int .i64 l[i].1)) (.cons (.val (.int .i64 l[i].2)) .nil)) := by
 rw [dKs, sq_nth_lt (by simpa using h)]; simp
theorem dKs_app1 (l : List Key) (a b : Int) : (dKs l).app (.cons (.agg (.cons (.val (.int .i64 a)) (.cons (.val (.int .i64 b)) .nil))) .nil) = dKs (l ++ [(a, b)]) := by
 simp only [dKs, List.map_append, ← sq_app]; rfl
@[simp] theorem dKs_mid_all (l : List Key) : (dKs l).mid 0 l.length = dKs l := sq_mid_all _ _ (by simp)
def dFo (f : Fo) : D := .agg (.cons (dEnt f.e) (.cons (.val (.int .i64 f.th)) (.cons (.val (.int .i64 f.md)) .nil)))
@[simp] theorem width_dFo (f : Fo) : (dFo f).width = 6 := rfl
abbrev avFo (f : Fo) : AV := .agg (.cons (avEnt f.e) (.cons (avInt f.th) (.cons (avInt f.md) .nil)))
def dFoB (f : Fo × Bool) : D := .box true () (dFo f.1)
@[simp high] theorem head_dFoB (f : Fo × Bool) : isHead (dFoB f) = true := by rw [dFoB, isHead]
abbrev avFoB (f : Fo × Bool) : AV := .tup (.cons (avFo f.1) (.cons (avBool f.2) .nil))
def placesAt (x : Int) (act : List Int) : List Key := act.map (fun m => (x, m)) ++ [(x, -1)]
def actT (x : Int) (act : List Int) (j : Nat) : List Key := (act.take j).map fun m => (x, m)
theorem actT_len (x : Int) (act : List Int) (j : Nat) : (actT x act j).length ≤ act.length := by simp only [actT, List.length_map, List.length_take]; omega
theorem actT_succ {x : Int} {act : List Int} {j : Nat} (h : j < act.length) : actT x act (j + 1) = actT x act j ++ [(x, act[j])] := by
 unfold actT
 rw [List.take_add_one, List.getElem?_eq_getElem h, List.map_append]; rfl
theorem actT_all (x : Int) (act : List Int) : placesAt x act = actT x act act.length ++ [(x, -1)] := by rw [actT, List.take_length, placesAt]
theorem actT_zero (x : Int) (act : List Int) : actT x act 0 = [] := rfl
def preT (pre : List Key) (x : Int) (act : List Int) (j : Nat) : List Key := pre ++ actT x act j
def placesL (l act : List Int) : List Key := l.flatMap fun x => placesAt x act
theorem placesL_succ {l act : List Int} {i : Nat} (hi : i < l.length) : placesL (l.take (i + 1)) act = placesL (l.take i) act ++ placesAt l[i] act := by
 simp only [placesL]
 rw [List.take_add_one, List.getElem?_eq_getElem hi, List.flatMap_append]; simp
theorem placesL_len (l act : List Int) : (placesL l act).length = l.length * (act.length + 1) := by
 induction l with
 | nil => simp [placesL]
 | cons x l ih =>
  have : placesL (x :: l) act = placesAt x act ++ placesL l act := rfl
  rw [this, List.length_append, ih]
  simp only [placesAt, List.length_append, List.length_map, List.length_cons, List.length_nil, Nat.succ_mul]; omega
theorem placesL_le (l act : List Int) (i : Nat) : (placesL (l.take i) act).length ≤ l.length * (act.length + 1) := by
 rw [placesL_len]
 exact Nat.mul_le_mul_right _ (by rw [List.length_take]; omega)
theorem places_ok (o : Bool) {s : Mt} (h : MtOk s) (t : Nat) (ht : t < s.L.length) (act : List Int) (ex : Bool) (ha : act.length ≤ 1000) : Meets Try.prog 30 [dTs o s] (.cons (.ptr 0 [.d]) (.cons (avInt t) (.cons (.imm 1 (dInts act) ex) .nil)))
  fun av X κ => av = .sub 1 [] 0 (placesOf s t act).length false ∧ X = [dTs o s, dKeys (placesOf s t act)] ∧ κ = [] := by
 have W := h.ok.wf
 have hol : (ordL s.L t).length ≤ 1000 := W.base.elim fun _ B => ord_len B ht (W.ord ht)
 have hp : placesOf s t act = placesL (ordL s.L t) act := rfl
 rw [hp]
 have hall : (ordL s.L t).length * (act.length + 1) ≤ 1001000 := Nat.le_trans (Nat.mul_le_mul hol (show act.length + 1 ≤ 1001 by omega)) (by omega)
 refine fb Try.func30 Try.ntmps30 [.tmp 6] fun w0 I0 F0 hF => ?_
 repeat first|refine n1 ?_|refine n2 ?_|refine n3 ?_|refine n4 ?_|refine n5 ?_|refine n6 ?_|refine n7 ?_|refine n8 ?_|refine n9 ?_|refine n0 ?_|refine ⟨⟨by omega, by omega⟩, ?_⟩|((first|refine rg 0 [0, 1, 2] [0, 1, 2] [] ?_|refine rg 1 [0, 1, 2] [2, 7] [] ?_|refine rg 2 [2, 7] [2, 7, 9] [] ?_|refine rg 3 [2, 7, 9] [2, 9, 23, 24, 25] [] ?_|refine rg 4 [2, 9, 23, 24, 25] [2, 9, 23, 24, 25, 26] [] ?_|refine rg 5 [2, 9, 23, 24, 25] [2, 9, 11, 23, 24, 25] [] ?_|refine rg 6 [2, 9, 11, 23, 24, 25] [2, 9, 11, 23, 24, 25, 29, 30, 31] [] ?_|refine rg 7 [2, 9, 11, 23, 24, 25, 29, 30, 31] [2, 9, 11, 23, 24, 25, 29, 30, 31, 32] [] ?_|refine rg 8 [2, 9, 11, 23, 24, 25, 29, 30, 31] [2, 9, 11, 13, 23, 24, 25, 29, 30, 31] [] ?_|refine rg 9 [2, 9, 11, 13, 23, 24, 25, 29, 30, 31] [2, 9, 11, 23, 24, 25, 29, 30, 31] [] ?_|refine rg 10 [2, 9, 11, 23, 24, 25, 29, 30, 31] [2, 9, 11, 23, 24, 25, 29, 30, 31] [] ?_|refine rg 11 [2, 9, 11, 23, 24, 25] [2, 9, 23, 24, 25] [] ?_|refine rg 12 [2, 9, 23, 24, 25] [2, 9, 23, 24, 25] [] ?_|refine rg 13 [9] [6] [] ?_|refine nc ?_);simp (maxSteps := 1000000) [hF, dTs, dL])
 refine (Order_yes W t ht).go [(0, [.d, .f 0])] (by simp (maxSteps := 1000000) [hF, dTs, dL]) ?_;rintro av X κ ⟨rfl, rfl, rfl⟩;simp (maxSteps := 1000000) [hF, dTs, dL]
 generalize ordL s.L t = od at *
 repeat first|refine n1 ?_|refine n2 ?_|refine n3 ?_|refine n4 ?_|refine n5 ?_|refine n6 ?_|refine n7 ?_|refine n8 ?_|refine n9 ?_|refine n0 ?_|refine ⟨⟨by omega, by omega⟩, ?_⟩|((first|refine rg 0 [0, 1, 2] [0, 1, 2] [] ?_|refine rg 1 [0, 1, 2] [2, 7] [] ?_|refine rg 2 [2, 7] [2, 7, 9] [] ?_|refine rg 3 [2, 7, 9] [2, 9, 23, 24, 25] [] ?_|refine rg 4 [2, 9, 23, 24, 25] [2, 9, 23, 24, 25, 26] [] ?_|refine rg 5 [2, 9, 23, 24, 25] [2, 9, 11, 23, 24, 25] [] ?_|refine rg 6 [2, 9, 11, 23, 24, 25] [2, 9, 11, 23, 24, 25, 29, 30, 31] [] ?_|refine rg 7 [2, 9, 11, 23, 24, 25, 29, 30, 31] [2, 9, 11, 23, 24, 25, 29, 30, 31, 32] [] ?_|refine rg 8 [2, 9, 11, 23, 24, 25, 29, 30, 31] [2, 9, 11, 13, 23, 24, 25, 29, 30, 31] [] ?_|refine rg 9 [2, 9, 11, 13, 23, 24, 25, 29, 30, 31] [2, 9, 11, 23, 24, 25, 29, 30, 31] [] ?_|refine rg 10 [2, 9, 11, 23, 24, 25, 29, 30, 31] [2, 9, 11, 23, 24, 25, 29, 30, 31] [] ?_|refine rg 11 [2, 9, 11, 23, 24, 25] [2, 9, 23, 24, 25] [] ?_|refine rg 12 [2, 9, 23, 24, 25] [2, 9, 23, 24, 25] [] ?_|refine rg 13 [9] [6] [] ?_|refine nc ?_);simp (maxSteps := 1000000) [hF])
 refine VS.hold0 9 2 (by simp) ?_
 refine VS.pick [2, 9, 23, 24, 25] [0, 1] (by simp [hF]) ?_;simp [hF]
 refine VS.rounds (fun m st => ∃ (i : Nat), i + m = od.length ∧ st = ⟨[(2, .imm 1 (dInts act) ex), (9, .sub 1 [] 0 (placesL (od.take i) act).length false), (23, .imm 1 (dInts od) false), (24, avInt od.length), (25, avInt i)], [dTs o s, dKeys (placesL (od.take i) act)], [], []⟩) ⟨od.length, 0, by omega, by simp [placesL, dTs, dKeys, dKs, dL]⟩ ?_
 rintro m st ⟨i, hi, rfl⟩
 repeat first|refine n1 ?_|refine n2 ?_|refine n3 ?_|refine n4 ?_|refine n5 ?_|refine n6 ?_|refine n7 ?_|refine n8 ?_|refine n9 ?_|refine n0 ?_|refine ⟨⟨by omega, by omega⟩, ?_⟩|((first|refine rg 0 [0, 1, 2] [0, 1, 2] [] ?_|refine rg 1 [0, 1, 2] [2, 7] [] ?_|refine rg 2 [2, 7] [2, 7, 9] [] ?_|refine rg 3 [2, 7, 9] [2, 9, 23, 24, 25] [] ?_|refine rg 4 [2, 9, 23, 24, 25] [2, 9, 23, 24, 25, 26] [] ?_|refine rg 5 [2, 9, 23, 24, 25] [2, 9, 11, 23, 24, 25] [] ?_|refine rg 6 [2, 9, 11, 23, 24, 25] [2, 9, 11, 23, 24, 25, 29, 30, 31] [] ?_|refine rg 7 [2, 9, 11, 23, 24, 25, 29, 30, 31] [2, 9, 11, 23, 24, 25, 29, 30, 31, 32] [] ?_|refine rg 8 [2, 9, 11, 23, 24, 25, 29, 30, 31] [2, 9, 11, 13, 23, 24, 25, 29, 30, 31] [] ?_|refine rg 9 [2, 9, 11, 13, 23, 24, 25, 29, 30, 31] [2, 9, 11, 23, 24, 25, 29, 30, 31] [] ?_|refine rg 10 [2, 9, 11, 23, 24, 25, 29, 30, 31] [2, 9, 11, 23, 24, 25, 29, 30, 31] [] ?_|refine rg 11 [2, 9, 11, 23, 24, 25] [2, 9, 23, 24, 25] [] ?_|refine rg 12 [2, 9, 23, 24, 25] [2, 9, 23, 24, 25] [] ?_|refine rg 13 [9] [6] [] ?_|refine nc ?_);simp (maxSteps := 1000000) [hF, dTs, dKeys])
 refine ⟨fun hlt => ?_, fun hge => ?_⟩
 ·have hi' : i < od.length := by omega
  have hn := dInts_nth hi'
  have hsucc := placesL_succ (act := act) hi'
  have hle := placesL_le od act (i + 1)
  rw [hsucc] at hle
  generalize hpre : placesL (od.take i) act = pre at *
  repeat first|refine n1 ?_|refine n2 ?_|refine n3 ?_|refine n4 ?_|refine n5 ?_|refine n6 ?_|refine n7 ?_|refine n8 ?_|refine n9 ?_|refine n0 ?_|refine ⟨⟨by omega, by omega⟩, ?_⟩|((first|refine rg 0 [0, 1, 2] [0, 1, 2] [] ?_|refine rg 1 [0, 1, 2] [2, 7] [] ?_|refine rg 2 [2, 7] [2, 7, 9] [] ?_|refine rg 3 [2, 7, 9] [2, 9, 23, 24, 25] [] ?_|refine rg 4 [2, 9, 23, 24, 25] [2, 9, 23, 24, 25, 26] [] ?_|refine rg 5 [2, 9, 23, 24, 25] [2, 9, 11, 23, 24, 25] [] ?_|refine rg 6 [2, 9, 11, 23, 24, 25] [2, 9, 11, 23, 24, 25, 29, 30, 31] [] ?_|refine rg 7 [2, 9, 11, 23, 24, 25, 29, 30, 31] [2, 9, 11, 23, 24, 25, 29, 30, 31, 32] [] ?_|refine rg 8 [2, 9, 11, 23, 24, 25, 29, 30, 31] [2, 9, 11, 13, 23, 24, 25, 29, 30, 31] [] ?_|refine rg 9 [2, 9, 11, 13, 23, 24, 25, 29, 30, 31] [2, 9, 11, 23, 24, 25, 29, 30, 31] [] ?_|refine rg 10 [2, 9, 11, 23, 24, 25, 29, 30, 31] [2, 9, 11, 23, 24, 25, 29, 30, 31] [] ?_|refine rg 11 [2, 9, 11, 23, 24, 25] [2, 9, 23, 24, 25] [] ?_|refine rg 12 [2, 9, 23, 24, 25] [2, 9, 23, 24, 25] [] ?_|refine rg 13 [9] [6] [] ?_|refine nc ?_);simp (maxSteps := 1000000) [hF, hn, hi'])
  generalize od[i] = x at *
  refine VS.pick [2, 9, 11, 23, 24, 25, 29, 30, 31] [0, 1] (by simp [hF]) ?_;simp [hF]
  refine VS.rounds (fun m2 st => ∃ (j : Nat), j + m2 = act.length ∧ st = ⟨[(2, .imm 1 (dInts act) ex), (9, .sub 1 [] 0 (preT pre x act j).length false), (11, avInt x), (23, .imm 1 (dInts od) false), (24, avInt od.length), (25, avInt i), (29, .imm 1 (dInts act) ex), (30, avInt act.length), (31, avInt j)],
   [dTs o s, dKeys (preT pre x act j)], [], []⟩) ⟨act.length, 0, by omega, by simp [dTs, dKeys, actT_zero, preT]⟩ ?_
  rintro m2 st ⟨j, hj, rfl⟩
  repeat first|refine n1 ?_|refine n2 ?_|refine n3 ?_|refine n4 ?_|refine n5 ?_|refine n6 ?_|refine n7 ?_|refine n8 ?_|refine n9 ?_|refine n0 ?_|refine ⟨⟨by omega, by omega⟩, ?_⟩|((first|refine rg 0 [0, 1, 2] [0, 1, 2] [] ?_|refine rg 1 [0, 1, 2] [2, 7] [] ?_|refine rg 2 [2, 7] [2, 7, 9] [] ?_|refine rg 3 [2, 7, 9] [2, 9, 23, 24, 25] [] ?_|refine rg 4 [2, 9, 23, 24, 25] [2, 9, 23, 24, 25, 26] [] ?_|refine rg 5 [2, 9, 23, 24, 25] [2, 9, 11, 23, 24, 25] [] ?_|refine rg 6 [2, 9, 11, 23, 24, 25] [2, 9, 11, 23, 24, 25, 29, 30, 31] [] ?_|refine rg 7 [2, 9, 11, 23, 24, 25, 29, 30, 31] [2, 9, 11, 23, 24, 25, 29, 30, 31, 32] [] ?_|refine rg 8 [2, 9, 11, 23, 24, 25, 29, 30, 31] [2, 9, 11, 13, 23, 24, 25, 29, 30, 31] [] ?_|refine rg 9 [2, 9, 11, 13, 23, 24, 25, 29, 30, 31] [2, 9, 11, 23, 24, 25, 29, 30, 31] [] ?_|refine rg 10 [2, 9, 11, 23, 24, 25, 29, 30, 31] [2, 9, 11, 23, 24, 25, 29, 30, 31] [] ?_|refine rg 11 [2, 9, 11, 23, 24, 25] [2, 9, 23, 24, 25] [] ?_|refine rg 12 [2, 9, 23, 24, 25] [2, 9, 23, 24, 25] [] ?_|refine rg 13 [9] [6] [] ?_|refine nc ?_);simp (maxSteps := 1000000) [hF, dTs, dKeys])
  refine ⟨fun hlt2 => ?_, fun hge2 => ?_⟩
  ·have hj' : j < act.length := by omega
   have hn2 := dInts_nth hj'
   have ht2 := actT_succ (x := x) hj'
   have hl2 : (preT pre x act j).length ≤ 1001000 := by
    have := actT_len x act j
    simp only [placesAt, preT, List.length_append, List.length_map] at hle ⊢; omega
   have hsum : preT pre x act (j + 1) = preT pre x act j ++ [(x, act[j])] := by rw [preT, ht2, preT, List.append_assoc]
   generalize preT pre x act j = q at *
   have happ := dKs_app1 q x act[j]
   have hmid := dKs_mid_all (q ++ [(x, act[j])])
   have b1 : (q.length + 1) * 16 ≤ 140737488355328 := by omega
   have b2 : q.length + 1 ≤ 9223372036854775807 := by omega
   have hw : IntKind.i64.wrap ((j : Int) + 1) = ((j + 1 : Nat) : Int) := by rw [IntWalk.i64_in _ (by omega)]; rfl
   repeat first|refine n1 ?_|refine n2 ?_|refine n3 ?_|refine n4 ?_|refine n5 ?_|refine n6 ?_|refine n7 ?_|refine n8 ?_|refine n9 ?_|refine n0 ?_|refine ⟨⟨by omega, by omega⟩, ?_⟩|((first|refine rg 0 [0, 1, 2] [0, 1, 2] [] ?_|refine rg 1 [0, 1, 2] [2, 7] [] ?_|refine rg 2 [2, 7] [2, 7, 9] [] ?_|refine rg 3 [2, 7, 9] [2, 9, 23, 24, 25] [] ?_|refine rg 4 [2, 9, 23, 24, 25] [2, 9, 23, 24, 25, 26] [] ?_|refine rg 5 [2, 9, 23, 24, 25] [2, 9, 11, 23, 24, 25] [] ?_|refine rg 6 [2, 9, 11, 23, 24, 25] [2, 9, 11, 23, 24, 25, 29, 30, 31] [] ?_|refine rg 7 [2, 9, 11, 23, 24, 25, 29, 30, 31] [2, 9, 11, 23, 24, 25, 29, 30, 31, 32] [] ?_|refine rg 8 [2, 9, 11, 23, 24, 25, 29, 30, 31] [2, 9, 11, 13, 23, 24, 25, 29, 30, 31] [] ?_|refine rg 9 [2, 9, 11, 13, 23, 24, 25, 29, 30, 31] [2, 9, 11, 23, 24, 25, 29, 30, 31] [] ?_|refine rg 10 [2, 9, 11, 23, 24, 25, 29, 30, 31] [2, 9, 11, 23, 24, 25, 29, 30, 31] [] ?_|refine rg 11 [2, 9, 11, 23, 24, 25] [2, 9, 23, 24, 25] [] ?_|refine rg 12 [2, 9, 23, 24, 25] [2, 9, 23, 24, 25] [] ?_|refine rg 13 [9] [6] [] ?_|refine nc ?_);simp (maxSteps := 1000000) [hF, hn2, hj', happ, b1, b2, hw])
   refine nextK.of [2, 9, 11, 23, 24, 25, 29, 30, 31] [0, 1] (m2 - 1) (by omega) (by simp [hF]) ?_
   refine ⟨j + 1, by omega, ?_⟩
   rw [hsum]
   simp [dTs, dKeys]
  ·obtain rfl : j = act.length := by omega
   have hl2 : (preT pre x act act.length).length ≤ 1001000 := by
    have := actT_len x act act.length
    simp only [placesAt, preT, List.length_append, List.length_map] at hle ⊢; omega
   have hsum : pre ++ placesAt x act = preT pre x act act.length ++ [(x, -1)] := by rw [actT_all, preT, List.append_assoc]
   rw [hsum] at hsucc
   generalize preT pre x act act.length = q at *
   have happ := dKs_app1 q x (-1)
   have hmid := dKs_mid_all (q ++ [(x, -1)])
   have b1 : (q.length + 1) * 16 ≤ 140737488355328 := by omega
   have b2 : q.length + 1 ≤ 9223372036854775807 := by omega
   have hw : IntKind.i64.wrap ((i : Int) + 1) = ((i + 1 : Nat) : Int) := by rw [IntWalk.i64_in _ (by omega)]; rfl
   repeat first|refine n1 ?_|refine n2 ?_|refine n3 ?_|refine n4 ?_|refine n5 ?_|refine n6 ?_|refine n7 ?_|refine n8 ?_|refine n9 ?_|refine n0 ?_|refine ⟨⟨by omega, by omega⟩, ?_⟩|((first|refine rg 0 [0, 1, 2] [0, 1, 2] [] ?_|refine rg 1 [0, 1, 2] [2, 7] [] ?_|refine rg 2 [2, 7] [2, 7, 9] [] ?_|refine rg 3 [2, 7, 9] [2, 9, 23, 24, 25] [] ?_|refine rg 4 [2, 9, 23, 24, 25] [2, 9, 23, 24, 25, 26] [] ?_|refine rg 5 [2, 9, 23, 24, 25] [2, 9, 11, 23, 24, 25] [] ?_|refine rg 6 [2, 9, 11, 23, 24, 25] [2, 9, 11, 23, 24, 25, 29, 30, 31] [] ?_|refine rg 7 [2, 9, 11, 23, 24, 25, 29, 30, 31] [2, 9, 11, 23, 24, 25, 29, 30, 31, 32] [] ?_|refine rg 8 [2, 9, 11, 23, 24, 25, 29, 30, 31] [2, 9, 11, 13, 23, 24, 25, 29, 30, 31] [] ?_|refine rg 9 [2, 9, 11, 13, 23, 24, 25, 29, 30, 31] [2, 9, 11, 23, 24, 25, 29, 30, 31] [] ?_|refine rg 10 [2, 9, 11, 23, 24, 25, 29, 30, 31] [2, 9, 11, 23, 24, 25, 29, 30, 31] [] ?_|refine rg 11 [2, 9, 11, 23, 24, 25] [2, 9, 23, 24, 25] [] ?_|refine rg 12 [2, 9, 23, 24, 25] [2, 9, 23, 24, 25] [] ?_|refine rg 13 [9] [6] [] ?_|refine nc ?_);simp (maxSteps := 1000000) [hF, happ, b1, b2, hw])
   refine nextK.of [2, 9, 23, 24, 25] [0, 1] (m - 1) (by omega) (by simp [hF]) ?_
   refine ⟨i + 1, by omega, ?_⟩
   rw [hsucc]
   simp [dTs, dKeys]
 ·obtain rfl : i = od.length := by omega
  rw [List.take_length]
  repeat first|refine n1 ?_|refine n2 ?_|refine n3 ?_|refine n4 ?_|refine n5 ?_|refine n6 ?_|refine n7 ?_|refine n8 ?_|refine n9 ?_|refine n0 ?_|refine ⟨⟨by omega, by omega⟩, ?_⟩|((first|refine rg 0 [0, 1, 2] [0, 1, 2] [] ?_|refine rg 1 [0, 1, 2] [2, 7] [] ?_|refine rg 2 [2, 7] [2, 7, 9] [] ?_|refine rg 3 [2, 7, 9] [2, 9, 23, 24, 25] [] ?_|refine rg 4 [2, 9, 23, 24, 25] [2, 9, 23, 24, 25, 26] [] ?_|refine rg 5 [2, 9, 23, 24, 25] [2, 9, 11, 23, 24, 25] [] ?_|refine rg 6 [2, 9, 11, 23, 24, 25] [2, 9, 11, 23, 24, 25, 29, 30, 31] [] ?_|refine rg 7 [2, 9, 11, 23, 24, 25, 29, 30, 31] [2, 9, 11, 23, 24, 25, 29, 30, 31, 32] [] ?_|refine rg 8 [2, 9, 11, 23, 24, 25, 29, 30, 31] [2, 9, 11, 13, 23, 24, 25, 29, 30, 31] [] ?_|refine rg 9 [2, 9, 11, 13, 23, 24, 25, 29, 30, 31] [2, 9, 11, 23, 24, 25, 29, 30, 31] [] ?_|refine rg 10 [2, 9, 11, 23, 24, 25, 29, 30, 31] [2, 9, 11, 23, 24, 25, 29, 30, 31] [] ?_|refine rg 11 [2, 9, 11, 23, 24, 25] [2, 9, 23, 24, 25] [] ?_|refine rg 12 [2, 9, 23, 24, 25] [2, 9, 23, 24, 25] [] ?_|refine rg 13 [9] [6] [] ?_|refine nc ?_);simp (maxSteps := 1000000) [hF])
  (try refine nr ?_);(repeat first|refine nb_ ?_|refine nl_ ?_);refine endK.o [6] [0, 1] [] ?_;simp [hF, retK, covers, mpre, dTs, dKeys]
theorem first_ok (o : Bool) (s : Mt) (l : List Key) (lo m : Nat) (hlo : lo + m = l.length) (hm : m ≤ 2000000) (ex : Bool) (n : ByteArray) : Meets Try.prog 48 [dTs o s, dKeys l] (.cons (.ptr 0 [.d]) (.cons (.sub 1 [] lo m ex) (.cons (.val (.string n)) .nil)))
  fun av X κ => av = avFoB (firstOf s (l.drop lo) n) ∧ X = [dTs o s, dKeys l, dFoB (firstOf s (l.drop lo) n)] ∧ κ = [] := by
 refine fb Try.func48 Try.ntmps48 [.cell 6 31, .tmp 7] fun w0 I0 F0 hF => ?_
 repeat first|refine n1 ?_|refine n2 ?_|refine n3 ?_|refine n4 ?_|refine n5 ?_|refine n6 ?_|refine n7 ?_|refine n8 ?_|refine n9 ?_|refine n0 ?_|refine ⟨⟨by omega, by omega⟩, ?_⟩|((first|refine rg 0 [0, 1, 2] [0, 1, 2, 6] [] ?_|refine rg 1 [0, 1, 2, 6] [0, 2, 6, 12, 13, 14] [] ?_|refine rg 2 [0, 2, 6, 12, 13, 14] [0, 2, 6, 12, 13, 14, 15] [] ?_|refine rg 3 [0, 2, 6, 12, 13, 14] [0, 2, 6, 9, 12, 13, 14] [] ?_|(refine dr 4 0 [0, 2, 6, 9, 12, 13, 14] [0, 2, 6, 9, 10, 11, 12, 13, 14] [] [⟨0, 1, 524288, 5⟩, ⟨1, 524288, 1048576, 5⟩, ⟨2, 1048576, 2097152, 5⟩, ⟨4, 2097152, 4194304, 6⟩, ⟨0, 512, 8388608, 6⟩, ⟨24, 12582912, 16777216, 4⟩, ⟨0, 4, 33554432, 5⟩, ⟨96, 50331648, 67108864, 4⟩, ⟨128, 67108864, 262144, 5⟩, ⟨256, 262144, 134217728, 5⟩, ⟨256, 262144, 268435456, 5⟩, ⟨0, 0, 1024, 4⟩, ⟨3071, 134218752, 0, 0⟩, ⟨8191, 268435456, 2048, 5⟩] (.take 0 (.take 1 (.take 2 (.take 3 (.take 4 (.take 6 (.fork (.alt 5 (.fork (.alt 7 (.take 8 (.take 9 (.take 10 (.fork (.alt 11 (.fork (.alt 12 (.take 13 (.done)) (.nil))) (.nil)))))) (.alt 11 (.fork (.alt 7 (.take 8 (.take 9 (.take 10 (.fork (.alt 12 (.take 13 (.done)) (.nil)))))) (.nil))) (.nil)))) (.alt 11 (.fork (.alt 5 (.fork (.alt 7 (.take 8 (.take 9 (.take 10 (.fork (.alt 12 (.take 13 (.done)) (.nil)))))) (.nil))) (.nil))) (.nil)))))))))) (.run [0, 1, 2, 3, 4, 6] (.both (.run [5] (.both (.run [7, 8, 9, 10, 11, 12, 13] (.done)) (.run [11, 7, 8, 9, 10, 12, 13] (.done)))) (.run [11, 5, 7, 8, 9, 10, 12, 13] (.done)))) ?_;simp only [drs])|refine rg 5 [0, 2, 6, 9, 10, 11, 12, 13, 14] [0, 2, 6, 9, 10, 12, 13, 14, 29] [] ?_|(refine dr 6 0 [6, 9, 10] [6, 7] [] [⟨0, 1024, 1073741824, 6⟩, ⟨0, 512, 2147483648, 5⟩, ⟨2, 2147483648, 4294967296, 6⟩, ⟨0, 512, 8589934592, 5⟩, ⟨8, 8589934592, 17179869184, 6⟩, ⟨21, 22548578304, 34359738368, 5⟩, ⟨0, 1024, 68719476736, 5⟩, ⟨64, 68719476736, 137438953472, 6⟩, ⟨128, 137438953472, 274877906944, 5⟩, ⟨63, 34359738432, 0, 0⟩, ⟨1023, 274877906944, 128, 5⟩] (.take 0 (.take 1 (.take 2 (.take 3 (.take 4 (.take 5 (.take 6 (.fork (.alt 7 (.take 8 (.fork (.alt 9 (.take 10 (.done)) (.nil)))) (.alt 9 (.take 7 (.take 8 (.take 10 (.done)))) (.nil))))))))))) (.run [0, 1, 2, 3, 4, 5, 6] (.both (.run [7, 8, 9, 10] (.done)) (.run [9, 7, 8, 10] (.done)))) ?_;simp only [drs])|refine rg 7 [0, 2, 6, 12, 13, 14] [0, 2, 6, 12, 13, 14] [] ?_|refine rg 8 [6] [6, 7] [] ?_|refine nc ?_);simp (maxSteps := 1000000) [hF, dKeys])
 refine VS.pick [0, 2, 6, 12, 13, 14] [0, 1, 2] (by simp [hF]) ?_;simp [hF]
 refine VS.rounds (fun q st => ∃ (i : Nat), i + q = m ∧ firstOf s (l.drop lo) n = firstOf s (l.drop (lo + i)) n ∧ st = ⟨[(0, .ptr 0 [.d]), (2, .val (.string n)), (6, .ptr 2 [.d]), (12, .sub 1 [] lo m ex), (13, avInt m), (14, avInt i)], [dTs o s, dKeys l, .box true () (dFo Fo.none)], [], []⟩) ⟨m, 0, by omega, rfl, by simp [dTs, dKeys, dFo, Fo.none, En.none, dEnt]⟩ ?_
 rintro q st ⟨i, hi, hf, rfl⟩
 repeat first|refine n1 ?_|refine n2 ?_|refine n3 ?_|refine n4 ?_|refine n5 ?_|refine n6 ?_|refine n7 ?_|refine n8 ?_|refine n9 ?_|refine n0 ?_|refine ⟨⟨by omega, by omega⟩, ?_⟩|((first|refine rg 0 [0, 1, 2] [0, 1, 2, 6] [] ?_|refine rg 1 [0, 1, 2, 6] [0, 2, 6, 12, 13, 14] [] ?_|refine rg 2 [0, 2, 6, 12, 13, 14] [0, 2, 6, 12, 13, 14, 15] [] ?_|refine rg 3 [0, 2, 6, 12, 13, 14] [0, 2, 6, 9, 12, 13, 14] [] ?_|(refine dr 4 0 [0, 2, 6, 9, 12, 13, 14] [0, 2, 6, 9, 10, 11, 12, 13, 14] [] [⟨0, 1, 524288, 5⟩, ⟨1, 524288, 1048576, 5⟩, ⟨2, 1048576, 2097152, 5⟩, ⟨4, 2097152, 4194304, 6⟩, ⟨0, 512, 8388608, 6⟩, ⟨24, 12582912, 16777216, 4⟩, ⟨0, 4, 33554432, 5⟩, ⟨96, 50331648, 67108864, 4⟩, ⟨128, 67108864, 262144, 5⟩, ⟨256, 262144, 134217728, 5⟩, ⟨256, 262144, 268435456, 5⟩, ⟨0, 0, 1024, 4⟩, ⟨3071, 134218752, 0, 0⟩, ⟨8191, 268435456, 2048, 5⟩] (.take 0 (.take 1 (.take 2 (.take 3 (.take 4 (.take 6 (.fork (.alt 5 (.fork (.alt 7 (.take 8 (.take 9 (.take 10 (.fork (.alt 11 (.fork (.alt 12 (.take 13 (.done)) (.nil))) (.nil)))))) (.alt 11 (.fork (.alt 7 (.take 8 (.take 9 (.take 10 (.fork (.alt 12 (.take 13 (.done)) (.nil)))))) (.nil))) (.nil)))) (.alt 11 (.fork (.alt 5 (.fork (.alt 7 (.take 8 (.take 9 (.take 10 (.fork (.alt 12 (.take 13 (.done)) (.nil)))))) (.nil))) (.nil))) (.nil)))))))))) (.run [0, 1, 2, 3, 4, 6] (.both (.run [5] (.both (.run [7, 8, 9, 10, 11, 12, 13] (.done)) (.run [11, 7, 8, 9, 10, 12, 13] (.done)))) (.run [11, 5, 7, 8, 9, 10, 12, 13] (.done)))) ?_;simp only [drs])|refine rg 5 [0, 2, 6, 9, 10, 11, 12, 13, 14] [0, 2, 6, 9, 10, 12, 13, 14, 29] [] ?_|(refine dr 6 0 [6, 9, 10] [6, 7] [] [⟨0, 1024, 1073741824, 6⟩, ⟨0, 512, 2147483648, 5⟩, ⟨2, 2147483648, 4294967296, 6⟩, ⟨0, 512, 8589934592, 5⟩, ⟨8, 8589934592, 17179869184, 6⟩, ⟨21, 22548578304, 34359738368, 5⟩, ⟨0, 1024, 68719476736, 5⟩, ⟨64, 68719476736, 137438953472, 6⟩, ⟨128, 137438953472, 274877906944, 5⟩, ⟨63, 34359738432, 0, 0⟩, ⟨1023, 274877906944, 128, 5⟩] (.take 0 (.take 1 (.take 2 (.take 3 (.take 4 (.take 5 (.take 6 (.fork (.alt 7 (.take 8 (.fork (.alt 9 (.take 10 (.done)) (.nil)))) (.alt 9 (.take 7 (.take 8 (.take 10 (.done)))) (.nil))))))))))) (.run [0, 1, 2, 3, 4, 5, 6] (.both (.run [7, 8, 9, 10] (.done)) (.run [9, 7, 8, 10] (.done)))) ?_;simp only [drs])|refine rg 7 [0, 2, 6, 12, 13, 14] [0, 2, 6, 12, 13, 14] [] ?_|refine rg 8 [6] [6, 7] [] ?_|refine nc ?_);simp (maxSteps := 1000000) [hF, dKeys])
 refine ⟨fun hlt => ?_, fun hge => ?_⟩
 ·have hi' : i < m := by omega
  have hil : lo + i < l.length := by omega
  have hn := dKs_nth hil
  have hdrop : l.drop (lo + i) = l[lo + i] :: l.drop (lo + (i + 1)) := by rw [List.drop_eq_getElem_cons hil]; rfl
  rw [hdrop] at hf
  obtain ⟨⟨a, b⟩, hk⟩ : ∃ k, l[lo + i] = k := ⟨_, rfl⟩
  rw [hk] at hf hn
  simp only [firstOf, lkp] at hf
  have hfind := dRows_find o s.tabs a b
  have hix := dRows_ix o s.tabs a b
  have hw : IntKind.i64.wrap ((i : Int) + 1) = ((i + 1 : Nat) : Int) := by rw [IntWalk.i64_in _ (by omega)]; rfl
  cases hg : aget s.tabs (a, b) with
  | none =>
   rw [hg] at hfind hf
   simp only [Option.map_none, Option.bind_none] at hfind hf
   repeat first|refine n1 ?_|refine n2 ?_|refine n3 ?_|refine n4 ?_|refine n5 ?_|refine n6 ?_|refine n7 ?_|refine n8 ?_|refine n9 ?_|refine n0 ?_|refine ⟨⟨by omega, by omega⟩, ?_⟩|((first|refine rg 0 [0, 1, 2] [0, 1, 2, 6] [] ?_|refine rg 1 [0, 1, 2, 6] [0, 2, 6, 12, 13, 14] [] ?_|refine rg 2 [0, 2, 6, 12, 13, 14] [0, 2, 6, 12, 13, 14, 15] [] ?_|refine rg 3 [0, 2, 6, 12, 13, 14] [0, 2, 6, 9, 12, 13, 14] [] ?_|(refine dr 4 0 [0, 2, 6, 9, 12, 13, 14] [0, 2, 6, 9, 10, 11, 12, 13, 14] [] [⟨0, 1, 524288, 5⟩, ⟨1, 524288, 1048576, 5⟩, ⟨2, 1048576, 2097152, 5⟩, ⟨4, 2097152, 4194304, 6⟩, ⟨0, 512, 8388608, 6⟩, ⟨24, 12582912, 16777216, 4⟩, ⟨0, 4, 33554432, 5⟩, ⟨96, 50331648, 67108864, 4⟩, ⟨128, 67108864, 262144, 5⟩, ⟨256, 262144, 134217728, 5⟩, ⟨256, 262144, 268435456, 5⟩, ⟨0, 0, 1024, 4⟩, ⟨3071, 134218752, 0, 0⟩, ⟨8191, 268435456, 2048, 5⟩] (.take 0 (.take 1 (.take 2 (.take 3 (.take 4 (.take 6 (.fork (.alt 5 (.fork (.alt 7 (.take 8 (.take 9 (.take 10 (.fork (.alt 11 (.fork (.alt 12 (.take 13 (.done)) (.nil))) (.nil)))))) (.alt 11 (.fork (.alt 7 (.take 8 (.take 9 (.take 10 (.fork (.alt 12 (.take 13 (.done)) (.nil)))))) (.nil))) (.nil)))) (.alt 11 (.fork (.alt 5 (.fork (.alt 7 (.take 8 (.take 9 (.take 10 (.fork (.alt 12 (.take 13 (.done)) (.nil)))))) (.nil))) (.nil))) (.nil)))))))))) (.run [0, 1, 2, 3, 4, 6] (.both (.run [5] (.both (.run [7, 8, 9, 10, 11, 12, 13] (.done)) (.run [11, 7, 8, 9, 10, 12, 13] (.done)))) (.run [11, 5, 7, 8, 9, 10, 12, 13] (.done)))) ?_;simp only [drs])|refine rg 5 [0, 2, 6, 9, 10, 11, 12, 13, 14] [0, 2, 6, 9, 10, 12, 13, 14, 29] [] ?_|(refine dr 6 0 [6, 9, 10] [6, 7] [] [⟨0, 1024, 1073741824, 6⟩, ⟨0, 512, 2147483648, 5⟩, ⟨2, 2147483648, 4294967296, 6⟩, ⟨0, 512, 8589934592, 5⟩, ⟨8, 8589934592, 17179869184, 6⟩, ⟨21, 22548578304, 34359738368, 5⟩, ⟨0, 1024, 68719476736, 5⟩, ⟨64, 68719476736, 137438953472, 6⟩, ⟨128, 137438953472, 274877906944, 5⟩, ⟨63, 34359738432, 0, 0⟩, ⟨1023, 274877906944, 128, 5⟩] (.take 0 (.take 1 (.take 2 (.take 3 (.take 4 (.take 5 (.take 6 (.fork (.alt 7 (.take 8 (.fork (.alt 9 (.take 10 (.done)) (.nil)))) (.alt 9 (.take 7 (.take 8 (.take 10 (.done)))) (.nil))))))))))) (.run [0, 1, 2, 3, 4, 5, 6] (.both (.run [7, 8, 9, 10] (.done)) (.run [9, 7, 8, 10] (.done)))) ?_;simp only [drs])|refine rg 7 [0, 2, 6, 12, 13, 14] [0, 2, 6, 12, 13, 14] [] ?_|refine rg 8 [6] [6, 7] [] ?_|refine nc ?_);simp (maxSteps := 1000000) [hF, dTs, dKeys, hn, hi', hil, hfind, hw])
   refine nextK.of [0, 2, 6, 12, 13, 14] [0, 1, 2] (q - 1) (by omega) (by simp [hF]) ?_
   exact ⟨i + 1, by omega, hf, by simp [dTs, dKeys]⟩
  | some t =>
   rw [hg] at hfind hf
   simp only [Option.map_some, Option.bind_some] at hfind hf
   obtain ⟨hlt2, hat⟩ := aidx_lt hg
   have hnth := dRows_nth o ⟨hlt2, hat⟩
   have hnf := dNs_find t n
   cases hg2 : aget t n with
   | none =>
    rw [hg2] at hnf hf
    simp only [Option.map_none] at hnf hf
    repeat first|refine n1 ?_|refine n2 ?_|refine n3 ?_|refine n4 ?_|refine n5 ?_|refine n6 ?_|refine n7 ?_|refine n8 ?_|refine n9 ?_|refine n0 ?_|refine ⟨⟨by omega, by omega⟩, ?_⟩|((first|refine rg 0 [0, 1, 2] [0, 1, 2, 6] [] ?_|refine rg 1 [0, 1, 2, 6] [0, 2, 6, 12, 13, 14] [] ?_|refine rg 2 [0, 2, 6, 12, 13, 14] [0, 2, 6, 12, 13, 14, 15] [] ?_|refine rg 3 [0, 2, 6, 12, 13, 14] [0, 2, 6, 9, 12, 13, 14] [] ?_|(refine dr 4 0 [0, 2, 6, 9, 12, 13, 14] [0, 2, 6, 9, 10, 11, 12, 13, 14] [] [⟨0, 1, 524288, 5⟩, ⟨1, 524288, 1048576, 5⟩, ⟨2, 1048576, 2097152, 5⟩, ⟨4, 2097152, 4194304, 6⟩, ⟨0, 512, 8388608, 6⟩, ⟨24, 12582912, 16777216, 4⟩, ⟨0, 4, 33554432, 5⟩, ⟨96, 50331648, 67108864, 4⟩, ⟨128, 67108864, 262144, 5⟩, ⟨256, 262144, 134217728, 5⟩, ⟨256, 262144, 268435456, 5⟩, ⟨0, 0, 1024, 4⟩, ⟨3071, 134218752, 0, 0⟩, ⟨8191, 268435456, 2048, 5⟩] (.take 0 (.take 1 (.take 2 (.take 3 (.take 4 (.take 6 (.fork (.alt 5 (.fork (.alt 7 (.take 8 (.take 9 (.take 10 (.fork (.alt 11 (.fork (.alt 12 (.take 13 (.done)) (.nil))) (.nil)))))) (.alt 11 (.fork (.alt 7 (.take 8 (.take 9 (.take 10 (.fork (.alt 12 (.take 13 (.done)) (.nil)))))) (.nil))) (.nil)))) (.alt 11 (.fork (.alt 5 (.fork (.alt 7 (.take 8 (.take 9 (.take 10 (.fork (.alt 12 (.take 13 (.done)) (.nil)))))) (.nil))) (.nil))) (.nil)))))))))) (.run [0, 1, 2, 3, 4, 6] (.both (.run [5] (.both (.run [7, 8, 9, 10, 11, 12, 13] (.done)) (.run [11, 7, 8, 9, 10, 12, 13] (.done)))) (.run [11, 5, 7, 8, 9, 10, 12, 13] (.done)))) ?_;simp only [drs])|refine rg 5 [0, 2, 6, 9, 10, 11, 12, 13, 14] [0, 2, 6, 9, 10, 12, 13, 14, 29] [] ?_|(refine dr 6 0 [6, 9, 10] [6, 7] [] [⟨0, 1024, 1073741824, 6⟩, ⟨0, 512, 2147483648, 5⟩, ⟨2, 2147483648, 4294967296, 6⟩, ⟨0, 512, 8589934592, 5⟩, ⟨8, 8589934592, 17179869184, 6⟩, ⟨21, 22548578304, 34359738368, 5⟩, ⟨0, 1024, 68719476736, 5⟩, ⟨64, 68719476736, 137438953472, 6⟩, ⟨128, 137438953472, 274877906944, 5⟩, ⟨63, 34359738432, 0, 0⟩, ⟨1023, 274877906944, 128, 5⟩] (.take 0 (.take 1 (.take 2 (.take 3 (.take 4 (.take 5 (.take 6 (.fork (.alt 7 (.take 8 (.fork (.alt 9 (.take 10 (.done)) (.nil)))) (.alt 9 (.take 7 (.take 8 (.take 10 (.done)))) (.nil))))))))))) (.run [0, 1, 2, 3, 4, 5, 6] (.both (.run [7, 8, 9, 10] (.done)) (.run [9, 7, 8, 10] (.done)))) ?_;simp only [drs])|refine rg 7 [0, 2, 6, 12, 13, 14] [0, 2, 6, 12, 13, 14] [] ?_|refine rg 8 [6] [6, 7] [] ?_|refine nc ?_);simp (maxSteps := 1000000) [hF, dTs, dKeys, hn, hi', hil, hfind, hix, hnth, hnf, hw])
    refine nextK.of [0, 2, 6, 12, 13, 14] [0, 1, 2] (q - 1) (by omega) (by simp [hF]) ?_
    exact ⟨i + 1, by omega, hf, by simp [dTs, dKeys]⟩
   | some e =>
    rw [hg2] at hnf hf
    simp only [Option.map_some] at hnf hf
    repeat first|refine n1 ?_|refine n2 ?_|refine n3 ?_|refine n4 ?_|refine n5 ?_|refine n6 ?_|refine n7 ?_|refine n8 ?_|refine n9 ?_|refine n0 ?_|refine ⟨⟨by omega, by omega⟩, ?_⟩|((first|refine rg 0 [0, 1, 2] [0, 1, 2, 6] [] ?_|refine rg 1 [0, 1, 2, 6] [0, 2, 6, 12, 13, 14] [] ?_|refine rg 2 [0, 2, 6, 12, 13, 14] [0, 2, 6, 12, 13, 14, 15] [] ?_|refine rg 3 [0, 2, 6, 12, 13, 14] [0, 2, 6, 9, 12, 13, 14] [] ?_|(refine dr 4 0 [0, 2, 6, 9, 12, 13, 14] [0, 2, 6, 9, 10, 11, 12, 13, 14] [] [⟨0, 1, 524288, 5⟩, ⟨1, 524288, 1048576, 5⟩, ⟨2, 1048576, 2097152, 5⟩, ⟨4, 2097152, 4194304, 6⟩, ⟨0, 512, 8388608, 6⟩, ⟨24, 12582912, 16777216, 4⟩, ⟨0, 4, 33554432, 5⟩, ⟨96, 50331648, 67108864, 4⟩, ⟨128, 67108864, 262144, 5⟩, ⟨256, 262144, 134217728, 5⟩, ⟨256, 262144, 268435456, 5⟩, ⟨0, 0, 1024, 4⟩, ⟨3071, 134218752, 0, 0⟩, ⟨8191, 268435456, 2048, 5⟩] (.take 0 (.take 1 (.take 2 (.take 3 (.take 4 (.take 6 (.fork (.alt 5 (.fork (.alt 7 (.take 8 (.take 9 (.take 10 (.fork (.alt 11 (.fork (.alt 12 (.take 13 (.done)) (.nil))) (.nil)))))) (.alt 11 (.fork (.alt 7 (.take 8 (.take 9 (.take 10 (.fork (.alt 12 (.take 13 (.done)) (.nil)))))) (.nil))) (.nil)))) (.alt 11 (.fork (.alt 5 (.fork (.alt 7 (.take 8 (.take 9 (.take 10 (.fork (.alt 12 (.take 13 (.done)) (.nil)))))) (.nil))) (.nil))) (.nil)))))))))) (.run [0, 1, 2, 3, 4, 6] (.both (.run [5] (.both (.run [7, 8, 9, 10, 11, 12, 13] (.done)) (.run [11, 7, 8, 9, 10, 12, 13] (.done)))) (.run [11, 5, 7, 8, 9, 10, 12, 13] (.done)))) ?_;simp only [drs])|refine rg 5 [0, 2, 6, 9, 10, 11, 12, 13, 14] [0, 2, 6, 9, 10, 12, 13, 14, 29] [] ?_|(refine dr 6 0 [6, 9, 10] [6, 7] [] [⟨0, 1024, 1073741824, 6⟩, ⟨0, 512, 2147483648, 5⟩, ⟨2, 2147483648, 4294967296, 6⟩, ⟨0, 512, 8589934592, 5⟩, ⟨8, 8589934592, 17179869184, 6⟩, ⟨21, 22548578304, 34359738368, 5⟩, ⟨0, 1024, 68719476736, 5⟩, ⟨64, 68719476736, 137438953472, 6⟩, ⟨128, 137438953472, 274877906944, 5⟩, ⟨63, 34359738432, 0, 0⟩, ⟨1023, 274877906944, 128, 5⟩] (.take 0 (.take 1 (.take 2 (.take 3 (.take 4 (.take 5 (.take 6 (.fork (.alt 7 (.take 8 (.fork (.alt 9 (.take 10 (.done)) (.nil)))) (.alt 9 (.take 7 (.take 8 (.take 10 (.done)))) (.nil))))))))))) (.run [0, 1, 2, 3, 4, 5, 6] (.both (.run [7, 8, 9, 10] (.done)) (.run [9, 7, 8, 10] (.done)))) ?_;simp only [drs])|refine rg 7 [0, 2, 6, 12, 13, 14] [0, 2, 6, 12, 13, 14] [] ?_|refine rg 8 [6] [6, 7] [] ?_|refine nc ?_);simp (maxSteps := 1000000) [hF, dTs, dKeys, hn, hi', hil, hfind, hix, hnth, hnf, hw, dEnt])
    (try refine nr ?_);(repeat first|refine nb_ ?_|refine nl_ ?_);refine endK.o [6, 7] [0, 1, 2] [] ?_;simp [hF, retK, covers, mpre, dTs, dKeys, hf, dFoB, dFo, dEnt]
 ·obtain rfl : i = m := by omega
  have hf2 : firstOf s (l.drop lo) n = (Fo.none, false) := by rw [hf, List.drop_of_length_le (by omega)]; rfl
  repeat first|refine n1 ?_|refine n2 ?_|refine n3 ?_|refine n4 ?_|refine n5 ?_|refine n6 ?_|refine n7 ?_|refine n8 ?_|refine n9 ?_|refine n0 ?_|refine ⟨⟨by omega, by omega⟩, ?_⟩|((first|refine rg 0 [0, 1, 2] [0, 1, 2, 6] [] ?_|refine rg 1 [0, 1, 2, 6] [0, 2, 6, 12, 13, 14] [] ?_|refine rg 2 [0, 2, 6, 12, 13, 14] [0, 2, 6, 12, 13, 14, 15] [] ?_|refine rg 3 [0, 2, 6, 12, 13, 14] [0, 2, 6, 9, 12, 13, 14] [] ?_|(refine dr 4 0 [0, 2, 6, 9, 12, 13, 14] [0, 2, 6, 9, 10, 11, 12, 13, 14] [] [⟨0, 1, 524288, 5⟩, ⟨1, 524288, 1048576, 5⟩, ⟨2, 1048576, 2097152, 5⟩, ⟨4, 2097152, 4194304, 6⟩, ⟨0, 512, 8388608, 6⟩, ⟨24, 12582912, 16777216, 4⟩, ⟨0, 4, 33554432, 5⟩, ⟨96, 50331648, 67108864, 4⟩, ⟨128, 67108864, 262144, 5⟩, ⟨256, 262144, 134217728, 5⟩, ⟨256, 262144, 268435456, 5⟩, ⟨0, 0, 1024, 4⟩, ⟨3071, 134218752, 0, 0⟩, ⟨8191, 268435456, 2048, 5⟩] (.take 0 (.take 1 (.take 2 (.take 3 (.take 4 (.take 6 (.fork (.alt 5 (.fork (.alt 7 (.take 8 (.take 9 (.take 10 (.fork (.alt 11 (.fork (.alt 12 (.take 13 (.done)) (.nil))) (.nil)))))) (.alt 11 (.fork (.alt 7 (.take 8 (.take 9 (.take 10 (.fork (.alt 12 (.take 13 (.done)) (.nil)))))) (.nil))) (.nil)))) (.alt 11 (.fork (.alt 5 (.fork (.alt 7 (.take 8 (.take 9 (.take 10 (.fork (.alt 12 (.take 13 (.done)) (.nil)))))) (.nil))) (.nil))) (.nil)))))))))) (.run [0, 1, 2, 3, 4, 6] (.both (.run [5] (.both (.run [7, 8, 9, 10, 11, 12, 13] (.done)) (.run [11, 7, 8, 9, 10, 12, 13] (.done)))) (.run [11, 5, 7, 8, 9, 10, 12, 13] (.done)))) ?_;simp only [drs])|refine rg 5 [0, 2, 6, 9, 10, 11, 12, 13, 14] [0, 2, 6, 9, 10, 12, 13, 14, 29] [] ?_|(refine dr 6 0 [6, 9, 10] [6, 7] [] [⟨0, 1024, 1073741824, 6⟩, ⟨0, 512, 2147483648, 5⟩, ⟨2, 2147483648, 4294967296, 6⟩, ⟨0, 512, 8589934592, 5⟩, ⟨8, 8589934592, 17179869184, 6⟩, ⟨21, 22548578304, 34359738368, 5⟩, ⟨0, 1024, 68719476736, 5⟩, ⟨64, 68719476736, 137438953472, 6⟩, ⟨128, 137438953472, 274877906944, 5⟩, ⟨63, 34359738432, 0, 0⟩, ⟨1023, 274877906944, 128, 5⟩] (.take 0 (.take 1 (.take 2 (.take 3 (.take 4 (.take 5 (.take 6 (.fork (.alt 7 (.take 8 (.fork (.alt 9 (.take 10 (.done)) (.nil)))) (.alt 9 (.take 7 (.take 8 (.take 10 (.done)))) (.nil))))))))))) (.run [0, 1, 2, 3, 4, 5, 6] (.both (.run [7, 8, 9, 10] (.done)) (.run [9, 7, 8, 10] (.done)))) ?_;simp only [drs])|refine rg 7 [0, 2, 6, 12, 13, 14] [0, 2, 6, 12, 13, 14] [] ?_|refine rg 8 [6] [6, 7] [] ?_|refine nc ?_);simp (maxSteps := 1000000) [hF])
  (try refine nr ?_);(repeat first|refine nb_ ?_|refine nl_ ?_);refine endK.o [6, 7] [0, 1, 2] [] ?_;simp [hF, retK, covers, mpre, dTs, dKeys, hf2, Fo.none, En.none, dFoB, dFo, dEnt]
theorem tfind_ok (o : Bool) {s : Mt} (h : MtOk s) (t : Nat) (ht : t < s.L.length) (n : ByteArray) (act : List Int) (ex : Bool) (ha : act.length ≤ 1000) : Meets Try.prog 24 [dTs o s] (.cons (.ptr 0 [.d]) (.cons (avInt t) (.cons (.val (.string n)) (.cons (.imm 1 (dInts act) ex) .nil))))
  fun av X κ => av = avFoB (findOf s t n act) ∧ X = [dTs o s, dFoB (findOf s t n act)] ∧ κ = [] := by
 have hl : (placesOf s t act).length ≤ 2000000 := by
  have hol : (ordL s.L t).length ≤ 1000 := h.ok.wf.base.elim fun _ B => ord_len B ht (h.ok.wf.ord ht)
  have h1 := placesL_len (ordL s.L t) act
  have h2 : (ordL s.L t).length * (act.length + 1) ≤ 1000 * 1001 := Nat.mul_le_mul hol (by omega)
  show (placesL (ordL s.L t) act).length ≤ _
  omega
 have hfi := first_ok o s (placesOf s t act) 0 (placesOf s t act).length (by omega) hl false n
 rw [List.drop_zero] at hfi
 have hfo : findOf s t n act = firstOf s (placesOf s t act) n := rfl
 rw [hfo]
 refine fb Try.func24 Try.ntmps24 [.cell 8 31, .tmp 9] fun w0 I0 F0 hF => ?_
 repeat first|refine n1 ?_|refine n2 ?_|refine n3 ?_|refine n4 ?_|refine n5 ?_|refine n6 ?_|refine n7 ?_|refine n8 ?_|refine n9 ?_|refine n0 ?_|refine ⟨⟨by omega, by omega⟩, ?_⟩|((first|refine rg 0 [0, 1, 2, 3] [0, 1, 2, 3, 8] [] ?_|refine rg 1 [0, 1, 2, 3, 8] [8, 9] [] ?_|refine nc ?_);simp (maxSteps := 1000000) [hF])
 refine (places_ok o h t ht act ex ha).go [(0, [])] (by simp (maxSteps := 1000000) [hF, dTs, dKeys]) ?_;rintro av X κ ⟨rfl, rfl, rfl⟩;simp (maxSteps := 1000000) [hF, dTs, dKeys]
 refine (hfi).go [(0, []), (2, [])] (by simp (maxSteps := 1000000) [hF, dTs, dKeys, dFoB]) ?_;rintro av X κ ⟨rfl, rfl, rfl⟩;simp (maxSteps := 1000000) [hF, dTs, dKeys, dFoB]
 repeat first|refine n1 ?_|refine n2 ?_|refine n3 ?_|refine n4 ?_|refine n5 ?_|refine n6 ?_|refine n7 ?_|refine n8 ?_|refine n9 ?_|refine n0 ?_|refine ⟨⟨by omega, by omega⟩, ?_⟩|((first|refine rg 0 [0, 1, 2, 3] [0, 1, 2, 3, 8] [] ?_|refine rg 1 [0, 1, 2, 3, 8] [8, 9] [] ?_|refine nc ?_);simp (maxSteps := 1000000) [hF, dFoB, dFo, dEnt])
 (try refine nr ?_);(repeat first|refine nb_ ?_|refine nl_ ?_);refine endK.o [8, 9] [0, 1] [] ?_;simp [hF, retK, covers, mpre, dTs, dFoB, dFo, dEnt]
theorem tfind_nil (o : Bool) {s : Mt} (h : MtOk s) (t : Nat) (ht : t < s.L.length) (n : ByteArray) : Meets Try.prog 24 [dTs o s] (.cons (.ptr 0 [.d]) (.cons (avInt t) (.cons (.val (.string n)) (.cons (.nils 1) .nil))))
  fun av X κ => av = avFoB (findOf s t n []) ∧ X = [dTs o s, dFoB (findOf s t n [])] ∧ κ = [] := Meets.nilled (tfind_ok o h t ht n [] true (by simp))
theorem chg_val {s : Mt} {t : Int} {fine : Bool} {ns : List ByteArray} (h : chgE s t fine ns = 0) : ∃ k : Nat, t = k ∧ k < s.L.length := by
 refine val_nat ?_
 cases hv : val s.L t with
 | true => rfl
 | false => simp [chgE, askE, hv] at h
theorem Undefine_ok {s : Mt} (h : MtOk s) (t : Int) (n : ByteArray) : Meets Try.prog 12 [dTs true s] (.cons (.ptr 0 [.d]) (.cons (avInt t) (.cons (.val (.string n)) .nil)))
  fun av X κ => av = avInt (undefOf s t n).2 ∧ X = [dTs true (undefOf s t n).1] ∧ κ = [(0, [.d])] := by
 have hch := changes_ok true h t true [n] true (by simp)
 refine fb Try.func12 Try.ntmps12 [.tmp 6] fun w0 I0 F0 hF => ?_
 repeat first|refine n1 ?_|refine n2 ?_|refine n3 ?_|refine n4 ?_|refine n5 ?_|refine n6 ?_|refine n7 ?_|refine n8 ?_|refine n9 ?_|refine n0 ?_|refine ⟨⟨by omega, by omega⟩, ?_⟩|((first|refine rg 0 [0, 1, 2] [0, 1, 2] [] ?_|refine rg 1 [0, 1, 2] [0, 1, 2, 7] [] ?_|refine rg 2 [0, 1, 2, 7] [0, 1, 2, 7, 16] [] ?_|refine rg 3 [7] [6] [] ?_|refine rg 4 [0, 1, 2] [0, 1, 2, 9] [] ?_|refine rg 5 [0, 1, 2, 9] [0, 1, 2, 26] [] ?_|refine rg 6 [] [6] [] ?_|refine rg 7 [0, 1, 2] [] [] ?_|refine rg 8 [] [6] [] ?_|refine nc ?_);simp (maxSteps := 1000000) [hF])
 refine (hch).go [(0, []), (1, [])] (by simp (maxSteps := 1000000) [hF, dTs, dNames, strs_one]) ?_;rintro av X κ ⟨rfl, rfl, rfl⟩;simp (maxSteps := 1000000) [hF, dTs, dNames, strs_one]
 by_cases h0 : chgE s t true [n] = 0
 ·obtain ⟨k, rfl, hk⟩ := chg_val h0
  have hfd := tfind_nil true h k hk n
  repeat first|refine n1 ?_|refine n2 ?_|refine n3 ?_|refine n4 ?_|refine n5 ?_|refine n6 ?_|refine n7 ?_|refine n8 ?_|refine n9 ?_|refine n0 ?_|refine ⟨⟨by omega, by omega⟩, ?_⟩|((first|refine rg 0 [0, 1, 2] [0, 1, 2] [] ?_|refine rg 1 [0, 1, 2] [0, 1, 2, 7] [] ?_|refine rg 2 [0, 1, 2, 7] [0, 1, 2, 7, 16] [] ?_|refine rg 3 [7] [6] [] ?_|refine rg 4 [0, 1, 2] [0, 1, 2, 9] [] ?_|refine rg 5 [0, 1, 2, 9] [0, 1, 2, 26] [] ?_|refine rg 6 [] [6] [] ?_|refine rg 7 [0, 1, 2] [] [] ?_|refine rg 8 [] [6] [] ?_|refine nc ?_);simp (maxSteps := 1000000) [hF, h0])
  refine (hfd).go [(0, [])] (by simp (maxSteps := 1000000) [hF, dTs, dFoB]) ?_;rintro av X κ ⟨rfl, rfl, rfl⟩;simp (maxSteps := 1000000) [hF, dTs, dFoB]
  cases hb : (findOf s k n []).2 with
  | false =>
   have he : undefOf s k n = (s, 3) := by simp [undefOf, h0, hb]
   repeat first|refine n1 ?_|refine n2 ?_|refine n3 ?_|refine n4 ?_|refine n5 ?_|refine n6 ?_|refine n7 ?_|refine n8 ?_|refine n9 ?_|refine n0 ?_|refine ⟨⟨by omega, by omega⟩, ?_⟩|((first|refine rg 0 [0, 1, 2] [0, 1, 2] [] ?_|refine rg 1 [0, 1, 2] [0, 1, 2, 7] [] ?_|refine rg 2 [0, 1, 2, 7] [0, 1, 2, 7, 16] [] ?_|refine rg 3 [7] [6] [] ?_|refine rg 4 [0, 1, 2] [0, 1, 2, 9] [] ?_|refine rg 5 [0, 1, 2, 9] [0, 1, 2, 26] [] ?_|refine rg 6 [] [6] [] ?_|refine rg 7 [0, 1, 2] [] [] ?_|refine rg 8 [] [6] [] ?_|refine nc ?_);simp (maxSteps := 1000000) [hF, hb, dFo, dEnt])
   (try refine nr ?_);(repeat first|refine nb_ ?_|refine nl_ ?_);refine endK.o [6] [0] [(0, [.d])] ?_;simp [hF, retK, covers, mpre, dTs, he]
  | true =>
   have he : undefOf s k n = (putOf s (k, -1) n ⟨-1, 0, k, n⟩, 0) := by simp [undefOf, h0, hb]
   repeat first|refine n1 ?_|refine n2 ?_|refine n3 ?_|refine n4 ?_|refine n5 ?_|refine n6 ?_|refine n7 ?_|refine n8 ?_|refine n9 ?_|refine n0 ?_|refine ⟨⟨by omega, by omega⟩, ?_⟩|((first|refine rg 0 [0, 1, 2] [0, 1, 2] [] ?_|refine rg 1 [0, 1, 2] [0, 1, 2, 7] [] ?_|refine rg 2 [0, 1, 2, 7] [0, 1, 2, 7, 16] [] ?_|refine rg 3 [7] [6] [] ?_|refine rg 4 [0, 1, 2] [0, 1, 2, 9] [] ?_|refine rg 5 [0, 1, 2, 9] [0, 1, 2, 26] [] ?_|refine rg 6 [] [6] [] ?_|refine rg 7 [0, 1, 2] [] [] ?_|refine rg 8 [] [6] [] ?_|refine nc ?_);simp (maxSteps := 1000000) [hF, hb, dFo, dEnt])
   refine (put_ok s k (-1) n ⟨-1, 0, k, n⟩).go [(0, [])] (by simp (maxSteps := 1000000) [hF, dTs]) ?_;rintro av X κ ⟨rfl, rfl, rfl⟩;simp (maxSteps := 1000000) [hF, dTs]
   repeat first|refine n1 ?_|refine n2 ?_|refine n3 ?_|refine n4 ?_|refine n5 ?_|refine n6 ?_|refine n7 ?_|refine n8 ?_|refine n9 ?_|refine n0 ?_|refine ⟨⟨by omega, by omega⟩, ?_⟩|((first|refine rg 0 [0, 1, 2] [0, 1, 2] [] ?_|refine rg 1 [0, 1, 2] [0, 1, 2, 7] [] ?_|refine rg 2 [0, 1, 2, 7] [0, 1, 2, 7, 16] [] ?_|refine rg 3 [7] [6] [] ?_|refine rg 4 [0, 1, 2] [0, 1, 2, 9] [] ?_|refine rg 5 [0, 1, 2, 9] [0, 1, 2, 26] [] ?_|refine rg 6 [] [6] [] ?_|refine rg 7 [0, 1, 2] [] [] ?_|refine rg 8 [] [6] [] ?_|refine nc ?_);simp (maxSteps := 1000000) [hF])
   (try refine nr ?_);(repeat first|refine nb_ ?_|refine nl_ ?_);refine endK.o [6] [0] [(0, [.d])] ?_;simp [hF, retK, covers, mpre, dTs, he]
 ·have he : undefOf s t n = (s, chgE s t true [n]) := by simp [undefOf, h0]
  repeat first|refine n1 ?_|refine n2 ?_|refine n3 ?_|refine n4 ?_|refine n5 ?_|refine n6 ?_|refine n7 ?_|refine n8 ?_|refine n9 ?_|refine n0 ?_|refine ⟨⟨by omega, by omega⟩, ?_⟩|((first|refine rg 0 [0, 1, 2] [0, 1, 2] [] ?_|refine rg 1 [0, 1, 2] [0, 1, 2, 7] [] ?_|refine rg 2 [0, 1, 2, 7] [0, 1, 2, 7, 16] [] ?_|refine rg 3 [7] [6] [] ?_|refine rg 4 [0, 1, 2] [0, 1, 2, 9] [] ?_|refine rg 5 [0, 1, 2, 9] [0, 1, 2, 26] [] ?_|refine rg 6 [] [6] [] ?_|refine rg 7 [0, 1, 2] [] [] ?_|refine rg 8 [] [6] [] ?_|refine nc ?_);simp (maxSteps := 1000000) [hF, h0])
  (try refine nr ?_);(repeat first|refine nb_ ?_|refine nl_ ?_);refine endK.o [6] [0] [(0, [.d])] ?_;simp [hF, retK, covers, mpre, dTs, he]
end Go.Proofs.Ytbhigdljojlhnaa

/- (Nothing is said of chains here.) -/

/- Find, super, Chain, Lineage. -/
namespace Go.Proofs.Ytbhigdljojlhnaa
set_option linter.all false
open Go.Vc Go.Proofs
set_option linter.unusedSimpArgs false
set_option linter.unusedVariables false
set_option maxRecDepth 100000
set_option maxHeartbeats 4000000
attribute [local irreducible] CallW EqK
def dJB : D := .box true () (.junk ())
@[simp high] theorem head_dJB : isHead dJB = true := by rw [dJB, isHead]
theorem act1_ok (o : Bool) {s : Mt} (h : MtOk s) (x : Int) : MeetsP Try.prog 47 [dTs o s, dJB] [(1, [.d], .ptr 0 [.d])] (.cons (avInt x) (.cons (.ptr 1 [.d]) .nil)) fun av X κ => av = avBool (!modB s x) ∧ X = [dTs o s, dJB] ∧ κ = [] := by
 refine fbP Try.func47 Try.ntmps47 [.tmp 3] fun w0 I0 F0 hF => ?_
 repeat first|refine n1 ?_|refine n2 ?_|refine n3 ?_|refine n4 ?_|refine n5 ?_|refine n6 ?_|refine n7 ?_|refine n8 ?_|refine n9 ?_|refine n0 ?_|refine ⟨⟨by omega, by omega⟩, ?_⟩|((first|refine rg 0 [0, 1] [0, 1] [] ?_|refine rg 1 [0, 1] [3] [] ?_|refine nc ?_);simp (maxSteps := 1000000) [hF, dJB, dTs])
 refine (mod_ok o h x).go [(0, [])] (by simp (maxSteps := 1000000) [hF, dJB, dTs]) ?_;rintro av X κ ⟨rfl, rfl, rfl⟩;simp (maxSteps := 1000000) [hF, dJB, dTs]
 repeat first|refine n1 ?_|refine n2 ?_|refine n3 ?_|refine n4 ?_|refine n5 ?_|refine n6 ?_|refine n7 ?_|refine n8 ?_|refine n9 ?_|refine n0 ?_|refine ⟨⟨by omega, by omega⟩, ?_⟩|((first|refine rg 0 [0, 1] [0, 1] [] ?_|refine rg 1 [0, 1] [3] [] ?_|refine nc ?_);simp (maxSteps := 1000000) [hF])
 (try refine nr ?_);(repeat first|refine nb_ ?_|refine nl_ ?_);refine endK.o [3] [0, 1] [] ?_;simp [hF, retK, covers, mpre, dJB, dTs]
theorem indexFunc_m (o : Bool) {s : Mt} (hs : MtOk s) (ex : Bool) (ls : List Int) (hl : ls.length ≤ 100000000) :
  MeetsP Try.prog 66 [dTs o s, dJB] [(1, [.d], .ptr 0 [.d])] (.cons (.imm 1 (dInts ls) ex) (.cons (.fn 47 (.cons (.ptr 1 [.d]) .nil)) .nil))
  fun av X κ => av = avInt (ixF (fun m => !modB s m) ls) ∧ X = [dTs o s, dJB] ∧ κ = [] := by
 refine fbP Try.func66 Try.ntmps66 [.tmp 4] fun w0 I0 F0 hF => ?_
 repeat first|refine n1 ?_|refine n2 ?_|refine n3 ?_|refine n4 ?_|refine n5 ?_|refine n6 ?_|refine n7 ?_|refine n8 ?_|refine n9 ?_|refine n0 ?_|refine ⟨⟨by omega, by omega⟩, ?_⟩|((first|refine rg 0 [0, 1] [0, 1] [] ?_|refine rg 1 [0, 1] [0, 1, 7, 8] [] ?_|refine rg 2 [0, 1, 7, 8] [0, 1, 7, 8, 9] [] ?_|refine rg 3 [0, 1, 7, 8] [0, 1, 5, 7, 8] [] ?_|refine rg 4 [0, 1, 5, 7, 8] [0, 1, 5, 7, 8, 16] [] ?_|refine rg 5 [5] [4] [] ?_|refine rg 6 [0, 1, 7, 8] [0, 1, 7, 8] [] ?_|refine rg 7 [] [4] [] ?_|refine nc ?_);simp (maxSteps := 1000000) [hF, dJB, dTs])
 refine VS.rounds (fun m st => ∃ (i : Nat), i + m = ls.length ∧ (∀ j, (h : j < ls.length) → j < i → (!modB s ls[j]) = false) ∧ st = ⟨[(0, .imm 1 (dInts ls) ex), (1, .fn 47 (.cons (.ptr 1 [.d]) .nil)), (7, avInt ls.length), (8, avInt i)], [dTs o s, dJB], [], [(1, [.d], .ptr 0 [.d])]⟩) ⟨ls.length, 0, by omega, by omega, by simp [dJB, dTs]⟩ ?_
 rintro m st ⟨i, hi, hall, rfl⟩
 repeat first|refine n1 ?_|refine n2 ?_|refine n3 ?_|refine n4 ?_|refine n5 ?_|refine n6 ?_|refine n7 ?_|refine n8 ?_|refine n9 ?_|refine n0 ?_|refine ⟨⟨by omega, by omega⟩, ?_⟩|((first|refine rg 0 [0, 1] [0, 1] [] ?_|refine rg 1 [0, 1] [0, 1, 7, 8] [] ?_|refine rg 2 [0, 1, 7, 8] [0, 1, 7, 8, 9] [] ?_|refine rg 3 [0, 1, 7, 8] [0, 1, 5, 7, 8] [] ?_|refine rg 4 [0, 1, 5, 7, 8] [0, 1, 5, 7, 8, 16] [] ?_|refine rg 5 [5] [4] [] ?_|refine rg 6 [0, 1, 7, 8] [0, 1, 7, 8] [] ?_|refine rg 7 [] [4] [] ?_|refine nc ?_);simp (maxSteps := 1000000) [hF, dJB, dTs])
 refine ⟨fun hlt => ?_, fun hge => ?_⟩
 ·have hi' : i < ls.length := by omega
  have hn := dInts_nth hi'
  repeat first|refine n1 ?_|refine n2 ?_|refine n3 ?_|refine n4 ?_|refine n5 ?_|refine n6 ?_|refine n7 ?_|refine n8 ?_|refine n9 ?_|refine n0 ?_|refine ⟨⟨by omega, by omega⟩, ?_⟩|((first|refine rg 0 [0, 1] [0, 1] [] ?_|refine rg 1 [0, 1] [0, 1, 7, 8] [] ?_|refine rg 2 [0, 1, 7, 8] [0, 1, 7, 8, 9] [] ?_|refine rg 3 [0, 1, 7, 8] [0, 1, 5, 7, 8] [] ?_|refine rg 4 [0, 1, 5, 7, 8] [0, 1, 5, 7, 8, 16] [] ?_|refine rg 5 [5] [4] [] ?_|refine rg 6 [0, 1, 7, 8] [0, 1, 7, 8] [] ?_|refine rg 7 [] [4] [] ?_|refine nc ?_);simp (maxSteps := 1000000) [hF, hn, hi', dJB, dTs])
  refine (act1_ok o hs ls[i]).goP [(0, []), (1, [])] (by simp (maxSteps := 1000000) [hF, plsOk, dJB, dTs]) ?_;rintro av X κ ⟨rfl, rfl, rfl⟩;simp (maxSteps := 1000000) [hF, dJB, dTs]
  cases hp : modB s ls[i] with
  | false =>
   have hr : ixF (fun m => !modB s m) ls = i := ixF_hit hi' (fun j h => hall j (by omega) h) (by simp [hp])
   repeat first|refine n1 ?_|refine n2 ?_|refine n3 ?_|refine n4 ?_|refine n5 ?_|refine n6 ?_|refine n7 ?_|refine n8 ?_|refine n9 ?_|refine n0 ?_|refine ⟨⟨by omega, by omega⟩, ?_⟩|((first|refine rg 0 [0, 1] [0, 1] [] ?_|refine rg 1 [0, 1] [0, 1, 7, 8] [] ?_|refine rg 2 [0, 1, 7, 8] [0, 1, 7, 8, 9] [] ?_|refine rg 3 [0, 1, 7, 8] [0, 1, 5, 7, 8] [] ?_|refine rg 4 [0, 1, 5, 7, 8] [0, 1, 5, 7, 8, 16] [] ?_|refine rg 5 [5] [4] [] ?_|refine rg 6 [0, 1, 7, 8] [0, 1, 7, 8] [] ?_|refine rg 7 [] [4] [] ?_|refine nc ?_);simp (maxSteps := 1000000) [hF, hp])
   (try refine nr ?_);(repeat first|refine nb_ ?_|refine nl_ ?_);refine endK.o [4] [0, 1] [] ?_;simp [hF, retK, covers, mpre, hr, dJB, dTs]
  | true =>
   repeat first|refine n1 ?_|refine n2 ?_|refine n3 ?_|refine n4 ?_|refine n5 ?_|refine n6 ?_|refine n7 ?_|refine n8 ?_|refine n9 ?_|refine n0 ?_|refine ⟨⟨by omega, by omega⟩, ?_⟩|((first|refine rg 0 [0, 1] [0, 1] [] ?_|refine rg 1 [0, 1] [0, 1, 7, 8] [] ?_|refine rg 2 [0, 1, 7, 8] [0, 1, 7, 8, 9] [] ?_|refine rg 3 [0, 1, 7, 8] [0, 1, 5, 7, 8] [] ?_|refine rg 4 [0, 1, 5, 7, 8] [0, 1, 5, 7, 8, 16] [] ?_|refine rg 5 [5] [4] [] ?_|refine rg 6 [0, 1, 7, 8] [0, 1, 7, 8] [] ?_|refine rg 7 [] [4] [] ?_|refine nc ?_);simp (maxSteps := 1000000) [hF, hp])
   refine nextK.of [0, 1, 7, 8] [0, 1] (m - 1) (by omega) (by simp [hF]) ?_
   refine ⟨i + 1, by omega, ?_, ?_⟩
   ·intro j hj hji
    rcases Nat.lt_or_ge j i with h' | h'
    ·exact hall j hj h'
    ·obtain rfl : j = i := by omega
     simp [hp]
   ·simp [dJB, dTs]
    exact IntWalk.i64_in _ (by omega)
 ·have hr : ixF (fun m => !modB s m) ls = -1 := ixF_miss (fun j h => hall j h (by omega))
  repeat first|refine n1 ?_|refine n2 ?_|refine n3 ?_|refine n4 ?_|refine n5 ?_|refine n6 ?_|refine n7 ?_|refine n8 ?_|refine n9 ?_|refine n0 ?_|refine ⟨⟨by omega, by omega⟩, ?_⟩|((first|refine rg 0 [0, 1] [0, 1] [] ?_|refine rg 1 [0, 1] [0, 1, 7, 8] [] ?_|refine rg 2 [0, 1, 7, 8] [0, 1, 7, 8, 9] [] ?_|refine rg 3 [0, 1, 7, 8] [0, 1, 5, 7, 8] [] ?_|refine rg 4 [0, 1, 5, 7, 8] [0, 1, 5, 7, 8, 16] [] ?_|refine rg 5 [5] [4] [] ?_|refine rg 6 [0, 1, 7, 8] [0, 1, 7, 8] [] ?_|refine rg 7 [] [4] [] ?_|refine nc ?_);simp (maxSteps := 1000000) [hF])
  (try refine nr ?_);(repeat first|refine nb_ ?_|refine nl_ ?_);refine endK.o [4] [0, 1] [] ?_;simp [hF, retK, covers, mpre, hr, dJB, dTs]
theorem containsFunc_m (o : Bool) {s : Mt} (hs : MtOk s) (ex : Bool) (ls : List Int) (hl : ls.length ≤ 100000000) :
  MeetsP Try.prog 46 [dTs o s, dJB] [(1, [.d], .ptr 0 [.d])] (.cons (.imm 1 (dInts ls) ex) (.cons (.fn 47 (.cons (.ptr 1 [.d]) .nil)) .nil))
  fun av X κ => av = avBool (!actB s ls) ∧ X = [dTs o s, dJB] ∧ κ = [] := by
 refine fbP Try.func46 Try.ntmps46 [.tmp 4] fun w0 I0 F0 hF => ?_
 repeat first|refine n1 ?_|refine n2 ?_|refine n3 ?_|refine n4 ?_|refine n5 ?_|refine n6 ?_|refine n7 ?_|refine n8 ?_|refine n9 ?_|refine n0 ?_|refine ⟨⟨by omega, by omega⟩, ?_⟩|((first|refine rg 0 [0, 1] [0, 1] [] ?_|refine rg 1 [0, 1] [4] [] ?_|refine nc ?_);simp (maxSteps := 1000000) [hF, dJB, dTs])
 refine (indexFunc_m o hs ex ls hl).goP [(0, []), (1, [])] (by simp (maxSteps := 1000000) [hF, plsOk, dJB, dTs]) ?_;rintro av X κ ⟨rfl, rfl, rfl⟩;simp (maxSteps := 1000000) [hF, dJB, dTs]
 repeat first|refine n1 ?_|refine n2 ?_|refine n3 ?_|refine n4 ?_|refine n5 ?_|refine n6 ?_|refine n7 ?_|refine n8 ?_|refine n9 ?_|refine n0 ?_|refine ⟨⟨by omega, by omega⟩, ?_⟩|((first|refine rg 0 [0, 1] [0, 1] [] ?_|refine rg 1 [0, 1] [4] [] ?_|refine nc ?_);simp (maxSteps := 1000000) [hF])
 have h : decide ((0 : Int) ≤ ixF (fun m => !modB s m) ls) = !actB s ls := by
  simp only [ixF_ge, Bool.decide_eq_true, actB]
  clear hl hF
  induction ls with
  | nil => rfl
  | cons a l ih => simp only [List.any_cons, List.all_cons, ih, Bool.not_and]
 (try refine nr ?_);(repeat first|refine nb_ ?_|refine nl_ ?_);refine endK.o [4] [0, 1] [] ?_;simp [hF, retK, covers, mpre, h, dJB, dTs]
theorem actives_ok (o : Bool) {s : Mt} (h : MtOk s) (ls : List Int) (ex : Bool) (hl : ls.length ≤ 100000000) : Meets Try.prog 22 [dTs o s] (.cons (.ptr 0 [.d]) (.cons (.imm 1 (dInts ls) ex) .nil))
  fun av X κ => av = avBool (actB s ls) ∧ X = [dTs o s] ∧ κ = [] := by
 refine fb Try.func22 Try.ntmps22 [.tmp 4] fun w0 I0 F0 hF => ?_
 repeat first|refine n1 ?_|refine n2 ?_|refine n3 ?_|refine n4 ?_|refine n5 ?_|refine n6 ?_|refine n7 ?_|refine n8 ?_|refine n9 ?_|refine n0 ?_|refine ⟨⟨by omega, by omega⟩, ?_⟩|((first|refine rg 0 [0, 1] [1, 2] [] ?_|refine rg 1 [1, 2] [4] [(3, 8)] ?_|refine nc ?_);simp (maxSteps := 1000000) [hF, dTs])
 refine (none_ok o s).go [(0, [])] (by simp (maxSteps := 1000000) [hF, dTs, dJB]) ?_;rintro av X κ ⟨rfl, rfl, rfl⟩;simp (maxSteps := 1000000) [hF, dTs, dJB]
 refine (containsFunc_m o h ex ls hl).goP [(0, []), (1, [])] (by simp (maxSteps := 1000000) [hF, plsOk, dJB, dTs]) ?_;rintro av X κ ⟨rfl, rfl, rfl⟩;simp (maxSteps := 1000000) [hF, dJB, dTs]
 repeat first|refine n1 ?_|refine n2 ?_|refine n3 ?_|refine n4 ?_|refine n5 ?_|refine n6 ?_|refine n7 ?_|refine n8 ?_|refine n9 ?_|refine n0 ?_|refine ⟨⟨by omega, by omega⟩, ?_⟩|((first|refine rg 0 [0, 1] [1, 2] [] ?_|refine rg 1 [1, 2] [4] [(3, 8)] ?_|refine nc ?_);simp (maxSteps := 1000000) [hF])
 (try refine nr ?_);(repeat first|refine nb_ ?_|refine nl_ ?_);refine endK.o [4] [0] [] ?_;simp [hF, retK, covers, mpre, dTs]
theorem told_ok (f : Fo) (b : Bool) : Meets Try.prog 23 [] (.cons (avFo f) (.cons (avBool b) .nil)) fun av X κ => av = .tup (.cons (avFo (toldOf (f, b)).1) (.cons (avInt (toldOf (f, b)).2) .nil)) ∧ X = [.box true () (dFo f), .box true () (dFo (toldOf (f, b)).1)] ∧ κ = [] := by
 refine fb Try.func23 Try.ntmps23 [.cell 4 31, .tmp 5] fun w0 I0 F0 hF => ?_
 cases b with
 | true =>
  repeat first|refine n1 ?_|refine n2 ?_|refine n3 ?_|refine n4 ?_|refine n5 ?_|refine n6 ?_|refine n7 ?_|refine n8 ?_|refine n9 ?_|refine n0 ?_|refine ⟨⟨by omega, by omega⟩, ?_⟩|((first|refine rg 0 [0, 1] [1, 2, 4] [] ?_|refine rg 1 [1, 2, 4] [2, 4, 7] [] ?_|refine rg 2 [4] [4, 5] [] ?_|refine rg 3 [2, 4] [4, 5] [] ?_|refine nc ?_);simp (maxSteps := 1000000) [hF])
  (try refine nr ?_);(repeat first|refine nb_ ?_|refine nl_ ?_);refine endK.o [4, 5] [0, 1] [] ?_;simp [hF, retK, covers, mpre, toldOf, dFo, dEnt]
 | false =>
  repeat first|refine n1 ?_|refine n2 ?_|refine n3 ?_|refine n4 ?_|refine n5 ?_|refine n6 ?_|refine n7 ?_|refine n8 ?_|refine n9 ?_|refine n0 ?_|refine ⟨⟨by omega, by omega⟩, ?_⟩|((first|refine rg 0 [0, 1] [1, 2, 4] [] ?_|refine rg 1 [1, 2, 4] [2, 4, 7] [] ?_|refine rg 2 [4] [4, 5] [] ?_|refine rg 3 [2, 4] [4, 5] [] ?_|refine nc ?_);simp (maxSteps := 1000000) [hF])
  (try refine nr ?_);(repeat first|refine nb_ ?_|refine nl_ ?_);refine endK.o [4, 5] [0, 1] [] ?_;simp [hF, retK, covers, mpre, toldOf, dFo, dEnt, Fo.none, En.none]
theorem Find_ok (o : Bool) {s : Mt} (h : MtOk s) (t : Int) (n : ByteArray) (act : List Int) (ex : Bool) (ha : act.length ≤ 1000) : Meets Try.prog 4 [dTs o s] (.cons (.ptr 0 [.d]) (.cons (avInt t) (.cons (.val (.string n)) (.cons (.imm 1 (dInts act) ex) .nil))))
  fun av X κ => av = .tup (.cons (avFo (FindOf s t n act).1) (.cons (avInt (FindOf s t n act).2) .nil)) ∧ X = [dTs o s, .box true () (dFo (FindOf s t n act).1)] ∧ κ = [] := by
 have hac := asked_ok o h t (actB s act) [n] true (by simp)
 refine fb Try.func4 Try.ntmps4 [.cell 8 31, .tmp 9] fun w0 I0 F0 hF => ?_
 repeat first|refine n1 ?_|refine n2 ?_|refine n3 ?_|refine n4 ?_|refine n5 ?_|refine n6 ?_|refine n7 ?_|refine n8 ?_|refine n9 ?_|refine n0 ?_|refine ⟨⟨by omega, by omega⟩, ?_⟩|((first|refine rg 0 [0, 1, 2, 3] [0, 1, 2, 3, 8] [] ?_|refine rg 1 [0, 1, 2, 3, 8] [0, 1, 2, 3, 8, 10] [] ?_|refine rg 2 [0, 1, 2, 3, 8, 10] [0, 1, 2, 3, 8, 10, 20] [] ?_|refine rg 3 [8, 10] [8, 9] [] ?_|refine rg 4 [0, 1, 2, 3, 8] [8, 9] [] ?_|refine nc ?_);simp (maxSteps := 1000000) [hF])
 refine (actives_ok o h act ex (by omega)).go [(0, [])] (by simp (maxSteps := 1000000) [hF, dTs]) ?_;rintro av X κ ⟨rfl, rfl, rfl⟩;simp (maxSteps := 1000000) [hF, dTs]
 refine (hac).go [(0, []), (2, [])] (by simp (maxSteps := 1000000) [hF, dTs, dNames, strs_one n]) ?_;rintro av X κ ⟨rfl, rfl, rfl⟩;simp (maxSteps := 1000000) [hF, dTs, dNames, strs_one n]
 by_cases h0 : askE s t (actB s act) [n] = 0
 ·obtain ⟨k, rfl, hk⟩ : ∃ k : Nat, t = k ∧ k < s.L.length := by
   refine val_nat ?_
   cases hv : val s.L t with
   | true => rfl
   | false => simp [askE, hv] at h0
  have he : FindOf s k n act = toldOf (findOf s k n act) := by simp [FindOf, h0]
  rw [he]
  repeat first|refine n1 ?_|refine n2 ?_|refine n3 ?_|refine n4 ?_|refine n5 ?_|refine n6 ?_|refine n7 ?_|refine n8 ?_|refine n9 ?_|refine n0 ?_|refine ⟨⟨by omega, by omega⟩, ?_⟩|((first|refine rg 0 [0, 1, 2, 3] [0, 1, 2, 3, 8] [] ?_|refine rg 1 [0, 1, 2, 3, 8] [0, 1, 2, 3, 8, 10] [] ?_|refine rg 2 [0, 1, 2, 3, 8, 10] [0, 1, 2, 3, 8, 10, 20] [] ?_|refine rg 3 [8, 10] [8, 9] [] ?_|refine rg 4 [0, 1, 2, 3, 8] [8, 9] [] ?_|refine nc ?_);simp (maxSteps := 1000000) [hF, h0])
  refine (tfind_ok o h k hk n act ex ha).go [(0, [])] (by simp (maxSteps := 1000000) [hF, dTs, dFoB]) ?_;rintro av X κ ⟨rfl, rfl, rfl⟩;simp (maxSteps := 1000000) [hF, dTs, dFoB]
  refine (told_ok (findOf s k n act).1 (findOf s k n act).2).go [] (by simp (maxSteps := 1000000) [hF, dFo, dEnt]) ?_;rintro av X κ ⟨rfl, rfl, rfl⟩;simp (maxSteps := 1000000) [hF, dFo, dEnt]
  repeat first|refine n1 ?_|refine n2 ?_|refine n3 ?_|refine n4 ?_|refine n5 ?_|refine n6 ?_|refine n7 ?_|refine n8 ?_|refine n9 ?_|refine n0 ?_|refine ⟨⟨by omega, by omega⟩, ?_⟩|((first|refine rg 0 [0, 1, 2, 3] [0, 1, 2, 3, 8] [] ?_|refine rg 1 [0, 1, 2, 3, 8] [0, 1, 2, 3, 8, 10] [] ?_|refine rg 2 [0, 1, 2, 3, 8, 10] [0, 1, 2, 3, 8, 10, 20] [] ?_|refine rg 3 [8, 10] [8, 9] [] ?_|refine rg 4 [0, 1, 2, 3, 8] [8, 9] [] ?_|refine nc ?_);simp (maxSteps := 1000000) [hF])
  (try refine nr ?_);(repeat first|refine nb_ ?_|refine nl_ ?_);refine endK.o [8, 9] [0, 1] [] ?_;simp [hF, retK, covers, mpre, dTs, dFo, dEnt]
 ·have he : FindOf s t n act = (Fo.none, askE s t (actB s act) [n]) := by simp [FindOf, h0]
  rw [he]
  repeat first|refine n1 ?_|refine n2 ?_|refine n3 ?_|refine n4 ?_|refine n5 ?_|refine n6 ?_|refine n7 ?_|refine n8 ?_|refine n9 ?_|refine n0 ?_|refine ⟨⟨by omega, by omega⟩, ?_⟩|((first|refine rg 0 [0, 1, 2, 3] [0, 1, 2, 3, 8] [] ?_|refine rg 1 [0, 1, 2, 3, 8] [0, 1, 2, 3, 8, 10] [] ?_|refine rg 2 [0, 1, 2, 3, 8, 10] [0, 1, 2, 3, 8, 10, 20] [] ?_|refine rg 3 [8, 10] [8, 9] [] ?_|refine rg 4 [0, 1, 2, 3, 8] [8, 9] [] ?_|refine nc ?_);simp (maxSteps := 1000000) [hF, h0])
  (try refine nr ?_);(repeat first|refine nb_ ?_|refine nl_ ?_);refine endK.o [8, 9] [0, 1] [] ?_;simp [hF, retK, covers, mpre, dTs, dFo, dEnt, Fo.none, En.none]
theorem Lineage_ok (o : Bool) (s : Mt) : Meets Try.prog 17 [dTs o s] (.cons (.ptr 0 [.d]) .nil) fun av X κ => av = .ptr 0 [.d, .f 0, .d] ∧ X = [dTs o s] ∧ κ = [] := by
 refine fb Try.func17 Try.ntmps17 [.tmp 2] fun w0 I0 F0 hF => ?_
 repeat first|refine n1 ?_|refine n2 ?_|refine n3 ?_|refine n4 ?_|refine n5 ?_|refine n6 ?_|refine n7 ?_|refine n8 ?_|refine n9 ?_|refine n0 ?_|refine ⟨⟨by omega, by omega⟩, ?_⟩|((first|refine rg 0 [0] [0] [] ?_|refine rg 1 [0] [0, 4] [] ?_|refine rg 2 [] [2] [] ?_|refine rg 3 [0] [2] [] ?_|refine nc ?_);simp (maxSteps := 1000000) [hF, dTs, dL])
 (try refine nr ?_);(repeat first|refine nb_ ?_|refine nl_ ?_);refine endK.o [2] [0] [] ?_;simp [hF, retK, covers, mpre, dTs, dL]
end Go.Proofs.Ytbhigdljojlhnaa

/- (Nothing is said of chains here.) -/

/- A list that is handed over and never seen again may be shown as one that cannot change. -/
namespace Go.Vc
set_option linter.all false
open T (hdr blk)
theorem Meets.coolL {P : Program} {f : FuncId} {z : Nat} {s : D} {Y : List D} {t : AV} {R : AV → List D → List (Nat × Path) → Prop} (h : Meets P f Y (t.chilled (.sl true () z s)) R)
    (hR : ∀ av X κ, R av X κ → av.plain = true) :
    Meets P f (.sl true () z s :: Y) t fun av X κ => ∃ av0 X0 κ0, R av0 X0 κ0 ∧ av = av0.emb [] 1 ∧ X = .junk () :: X0 ∧ κ = (0, []) :: κ0.map fun e => (e.1 + 1, e.2) := by
  refine ⟨h.1, fun w I F0 vs hY hH hnd hap hlt hil hvs => ?_⟩
  obtain ⟨g0, FY, rfl⟩ : ∃ g0 FY, F0 = g0 :: FY := by
    cases F0 with
    | nil => simp at hY
    | cons g0 l => exact ⟨g0, l, rfl⟩
  simp only [List.map_cons, List.cons.injEq] at hY
  obtain ⟨hY, hYs⟩ := hY
  have hg0 := hH g0 (by simp)
  have hcons : ∀ F : List G, own (g0 :: F) = own [g0] ++ own F := fun F => by simp [own]
  have hog : own [g0] = g0.owned := by simp [own]
  rw [hcons] at hnd hap hlt
  obtain ⟨hnd1, hnd2, hnd3⟩ := List.nodup_append.1 hnd
  have harg := hvs.chilled (I' := fun b' => I b' ∨ b' ∈ own [g0]) hg0 (fun _ h => .inl h) (fun b hb => .inr (by rw [hog]; exact hb))
  rw [hY] at harg
  refine Calls.mono (h.2 w _ FY vs hYs (fun g' hg' => (hH g' (by simp [hg'])).agree (fun _ _ => rfl) (fun _ _ => rfl) fun _ h => .inl h) hnd2
    (fun b' hb h' => h'.elim (hap b' (by simp [hb])) fun h' => hnd3 b' h' b' hb rfl) (fun b' hb => hlt b' (by simp [hb])) (fun b' hb => hb.elim (hil b') fun h' => hlt b' (by simp [h'])) harg) fun e w' he => ?_
  obtain ⟨v', av, X, κ, I', F', rfl, hRR, hi, hr⟩ := he
  have hp := hR _ _ _ hRR
  obtain ⟨a, s0, rfl⟩ : ∃ a s0, g0 = .sl true a z s0 := by
    cases g0 <;> simp only [T.erase] at hY <;> cases hY
    exact ⟨_, _, rfl⟩
  have haone : a.oneCell' = true := by
    obtain ⟨_, _, _, h4⟩ := hg0
    cases a <;> first | rfl | exact absurd h4 (by simp)
  have hj : own ((.junk a : G) :: F') = own F' := by simp [own, T.owned]
  have hdt : ∀ q, dead ((0, []) :: κ.map fun e => (e.1 + 1, e.2)) 0 q true = true := fun q => by simp [dead, mpre]
  have hdf : ∀ q, dead ((0, []) :: κ.map fun e => (e.1 + 1, e.2)) 0 q false = true ∨ q = [] := fun q => by cases q <;> simp [dead, mpre]
  refine ⟨v', av.emb [] 1, .junk () :: X, (0, []) :: κ.map fun e => (e.1 + 1, e.2), I', .junk a :: F', rfl, ⟨av, X, κ, hRR, rfl, rfl, rfl⟩, ⟨?_, ?_, ?_, ?_, ?_, ?_, hi.os, hi.tape, hi.output, hi.size, ?_, ?_, fun _ hb => hi.imono _ (.inl hb), ?_, ?_⟩, hr.shift hp⟩
  · simp [hi.erase, T.erase]
  · intro g' hg'
    rcases List.mem_cons.1 hg' with rfl | hg'
    · exact haone
    · exact hi.holds g' hg'
  · rw [hj]; exact hi.nodup
  · rw [hj]; exact hi.apart
  · rw [hj]; exact hi.lt
  · exact hi.ilt
  · intro b' hb hn
    rw [hcons] at hn
    exact hi.frame b' hb fun h' => hn (by simp [h'])
  · intro b' hb hlt'
    rw [hj] at hb
    rw [hcons]
    simp [hi.fresh b' hb hlt']
  · intro b' hb
    rw [hcons]
    rcases hi.inew b' hb with (h1 | h1) | h1 | h1
    · exact .inl h1
    · exact .inr (.inr (by simp [h1]))
    · exact .inr (.inl h1)
    · exact .inr (.inr (by simp [h1]))
  · intro k g1 hk
    cases k with
    | zero =>
      simp only [List.getElem?_cons_zero, Option.some.injEq] at hk
      subst hk
      refine ⟨_, rfl, rfl, fun q hq => ?_, fun q hq => ?_, fun q v _ hq => ?_⟩
      · rcases hdf q with h | rfl
        · rw [h] at hq; cases hq
        · rfl
      · rw [hdt] at hq; cases hq
      · rw [hdt] at hq; cases hq
    | succ k =>
      simp only [List.getElem?_cons_succ] at hk
      obtain ⟨g', q1, q2, q3, q4, q5⟩ := hi.base k g1 hk
      have hds : ∀ q s, dead ((0, []) :: κ.map fun e => (e.1 + 1, e.2)) (k + 1) q s = dead κ k q s := fun q s => by
        rw [← dead_shift κ k q s]; unfold dead; rw [List.any_cons]; simp
      exact ⟨g', by simpa using q1, q2, fun q hq => q3 q (by rwa [hds] at hq), fun q hq => q4 q (by rwa [hds] at hq), fun q v hv hq => q5 q v hv (by rwa [hds] at hq)⟩
end Go.Vc

/- New; the sane examples. -/
namespace Go.Proofs.Ytbhigdljojlhnaa
set_option linter.all false
open Go.Vc Go.Proofs
set_option linter.unusedSimpArgs false
set_option linter.unusedVariables false
set_option maxRecDepth 100000
set_option maxHeartbeats 4000000
attribute [local irreducible] CallW EqK
theorem New_ok {L : List Th} (h : OK L) (hp : 0 < L.length) : Meets Try.prog 19 [dL L] (.cons (.ptr 0 [.d]) .nil)
  fun av X κ => av = avTwo (.ptr 1 [.d]) 0 ∧ X = [dL L, dTs true ⟨L, [], []⟩] ∧ κ = [] := by
 have hl := h.len
 have hz : ¬ L.length = 0 := by omega
 refine fb Try.func19 Try.ntmps19 [.tmp 2, .tmp 3] fun w0 I0 F0 hF => ?_
 repeat first|refine n1 ?_|refine n2 ?_|refine n3 ?_|refine n4 ?_|refine n5 ?_|refine n6 ?_|refine n7 ?_|refine n8 ?_|refine n9 ?_|refine n0 ?_|refine ⟨⟨by omega, by omega⟩, ?_⟩|((first|refine rg 0 [0] [0] [] ?_|refine rg 1 [0] [0, 6] [] ?_|refine rg 2 [] [2, 3] [] ?_|refine rg 3 [0] [2, 3] [] ?_|refine nc ?_);simp (maxSteps := 1000000) [hF])
 refine (len_ok L hl).go [(0, [])] (by simp (maxSteps := 1000000) [hF, dL, hz]) ?_;rintro av X κ ⟨rfl, rfl, rfl⟩;simp (maxSteps := 1000000) [hF, dL, hz]
 repeat first|refine n1 ?_|refine n2 ?_|refine n3 ?_|refine n4 ?_|refine n5 ?_|refine n6 ?_|refine n7 ?_|refine n8 ?_|refine n9 ?_|refine n0 ?_|refine ⟨⟨by omega, by omega⟩, ?_⟩|((first|refine rg 0 [0] [0] [] ?_|refine rg 1 [0] [0, 6] [] ?_|refine rg 2 [] [2, 3] [] ?_|refine rg 3 [0] [2, 3] [] ?_|refine nc ?_);simp (maxSteps := 1000000) [hF])
 refine (copy_ok h hp).go [(0, [])] (by simp (maxSteps := 1000000) [hF, dL]) ?_;rintro av X κ ⟨rfl, rfl, rfl⟩;simp (maxSteps := 1000000) [hF, dL]
 repeat first|refine n1 ?_|refine n2 ?_|refine n3 ?_|refine n4 ?_|refine n5 ?_|refine n6 ?_|refine n7 ?_|refine n8 ?_|refine n9 ?_|refine n0 ?_|refine ⟨⟨by omega, by omega⟩, ?_⟩|((first|refine rg 0 [0] [0] [] ?_|refine rg 1 [0] [0, 6] [] ?_|refine rg 2 [] [2, 3] [] ?_|refine rg 3 [0] [2, 3] [] ?_|refine nc ?_);simp (maxSteps := 1000000) [hF])
 (try refine nr ?_);(repeat first|refine nb_ ?_|refine nl_ ?_);refine endK.o [2, 3] [0, 4] [] ?_;simp [hF, retK, covers, mpre, dL, dTs]
abbrev nA : ByteArray := ⟨#[97]⟩
abbrev nB : ByteArray := ⟨#[98]⟩
def LA : List Th := L0 ++ [newTh 0 0 (-1)]
def LB : List Th := LA ++ [newTh 1 (-1) (-1)]
theorem LA_OK : OK LA := (add_OK (k := 0) (s := 0) (o := -1) L0_OK (by decide) (by decide) (fun _ => by decide) (fun h => absurd h (by decide))).1
theorem LB_OK : OK LB := (add_OK (k := 1) (s := -1) (o := -1) LA_OK (by decide) (by decide) (fun h => absurd h (by decide)) (fun _ => by decide)).1
theorem oA0 : ordL LA 0 = [0] := by
 have : ordOf LA 0 = some [0] := ordOf_iff.2 ⟨3, by decide⟩
 unfold ordL; rw [this]
theorem oA1 : ordL LA 1 = [1, 0] := by
 have : ordOf LA 1 = some [1, 0] := ordOf_iff.2 ⟨3, by decide⟩
 unfold ordL; rw [this]
theorem oB1 : ordL LB 1 = [1, 0] := by
 have : ordOf LB 1 = some [1, 0] := ordOf_iff.2 ⟨3, by decide⟩
 unfold ordL; rw [this]
def s1 : Mt := ⟨LA, [], []⟩
def s2 : Mt := ⟨LA, [((0, -1), [(nA, ⟨7, 0, 0, nA⟩)])], []⟩
def s3 : Mt := ⟨LA, [((0, -1), [(nA, ⟨7, 0, 0, nA⟩)]), ((1, -1), [(nA, ⟨-1, 0, 1, nA⟩)])], []⟩
def s4 : Mt := ⟨LB, s3.tabs, []⟩
def s5 : Mt := ⟨LB, [((0, -1), [(nA, ⟨7, 0, 0, nA⟩)]), ((1, -1), [(nA, ⟨-1, 0, 1, nA⟩)]), ((0, 2), [(nB, ⟨8, 0, 0, nB⟩)])], []⟩
theorem m1 : MtOk s1 := ⟨LA_OK, by decide, by decide, (fun _ _ h => by cases h), by decide⟩
theorem m2 : MtOk s2 := m1.put (0, -1) nA ⟨7, 0, 0, nA⟩
theorem m3 : MtOk s3 := m2.put (1, -1) nA ⟨-1, 0, 1, nA⟩
theorem m4 : MtOk s4 := ⟨LB_OK, by decide, m3.nd, m3.ns, m3.nf⟩
theorem m5 : MtOk s5 := m4.put (0, 2) nB ⟨8, 0, 0, nB⟩
theorem e1 : classOf L0 0 = (LA, 1, 0) := rfl
theorem e2 : defineOf s1 0 nA 7 0 = (s2, 0) := rfl
theorem q1 : findOf s2 1 nA [] = (⟨⟨7, 0, 0, nA⟩, 0, -1⟩, true) := by
 have : ordL s2.L 1 = [1, 0] := oA1
 unfold findOf placesOf; rw [this]; rfl
theorem e3 : undefOf s2 1 nA = (s3, 0) := by
 unfold undefOf
 rw [if_neg (by decide), q1]; rfl
theorem q2 : FindOf s3 1 nA [] = (Fo.none, 3) := by
 have : ordL s3.L 1 = [1, 0] := oA1
 unfold FindOf findOf placesOf; rw [this]; rfl
theorem q3 : FindOf s3 0 nA [] = (⟨⟨7, 0, 0, nA⟩, 0, -1⟩, 0) := by
 have : ordL s3.L 0 = [0] := oA0
 unfold FindOf findOf placesOf; rw [this]; rfl
theorem e4 : moduleOf LA = (LB, 2, 0) := rfl
theorem e5 : refineOf s4 2 0 nB 8 = (s5, 0) := rfl
theorem q4 : FindOf s5 1 nB [2] = (⟨⟨8, 0, 0, nB⟩, 0, 2⟩, 0) := by
 have : ordL s5.L 1 = [1, 0] := oB1
 unfold FindOf findOf placesOf; rw [this]; rfl
theorem Find_nil (o : Bool) {s : Mt} (h : MtOk s) (t : Int) (n : ByteArray) : Meets Try.prog 4 [dTs o s] (.cons (.ptr 0 [.d]) (.cons (avInt t) (.cons (.val (.string n)) (.cons (.nils 1) .nil))))
  fun av X κ => av = .tup (.cons (avFo (FindOf s t n []).1) (.cons (avInt (FindOf s t n []).2) .nil)) ∧ X = [dTs o s, .box true () (dFo (FindOf s t n []).1)] ∧ κ = [] :=
 Meets.nilled (Find_ok o h t n [] true (by simp))
theorem n1L : s1.L = LA := rfl
theorem n1t : s1.tabs = [] := rfl
theorem n1f : s1.fz = [] := rfl
theorem n2L : s2.L = LA := rfl
theorem n2f : s2.fz = [] := rfl
theorem n3L : s3.L = LA := rfl
theorem n3f : s3.fz = [] := rfl
theorem n4L : s4.L = LB := rfl
theorem n4t : s4.tabs = s3.tabs := rfl
theorem n4f : s4.fz = [] := rfl
theorem n5L : s5.L = LB := rfl
theorem n5f : s5.fz = [] := rfl
theorem Find_l (o : Bool) {s : Mt} (h : MtOk s) (t : Int) (n : ByteArray) (act : List Int) (ex : Bool) (ha : act.length ≤ 1000) : Meets Try.prog 4 [.sl true () 1 (dInts act), dTs o s] (.cons (.ptr 1 [.d]) (.cons (avInt t) (.cons (.val (.string n)) (.cons (.sub 0 [] 0 act.length ex) .nil))))
  fun av X κ => av = .tup (.cons (avFo (FindOf s t n act).1) (.cons (avInt (FindOf s t n act).2) .nil)) ∧ X = [.junk (), dTs o s, .box true () (dFo (FindOf s t n act).1)] ∧ κ = [(0, [])] := by
 have hm := Find_ok o h t n act ex ha
 refine Meets.mono (Meets.coolL (z := 1) (s := dInts act) (Y := [dTs o s]) (by simpa [AV.chilled] using hm) ?_) ?_
 ·rintro av X κ ⟨rfl, _, _⟩; rfl
 ·rintro av X κ ⟨av0, X0, κ0, ⟨rfl, rfl, rfl⟩, rfl, rfl, rfl⟩
  exact ⟨rfl, rfl, rfl⟩
theorem sane_ok : Meets Try.prog 20 [] .nil fun av X κ => av = avBool true ∧ X = [] ∧ κ = [] := by
 have hl0 : L0.length ≤ 1000 := by decide
 have hlA : LA.length ≤ 1000 := by decide
 have c1 := class_ok L0 hl0 0
 have c2 := Define_ok m1 0 nA 7 0
 have c3 := Undefine_ok m2 1 nA
 have c4 := Find_nil true m3 1 nA
 have c5 := Find_nil true m3 0 nA
 have c6 := module_ok LA hlA
 have c7 := Refine_ok m4 2 0 nB 8
 have c8 := Find_l true m5 1 nB [2] true (by simp)
 rw [e1] at c1
 rw [e2] at c2
 rw [e3] at c3
 rw [q2] at c4
 rw [q3] at c5
 rw [e4] at c6
 rw [e5] at c7
 rw [q4] at c8
 refine fb Try.func20 Try.ntmps20 [.tmp 0] fun w0 I0 F0 hF => ?_
 repeat first|refine n1 ?_|refine n2 ?_|refine n3 ?_|refine n4 ?_|refine n5 ?_|refine n6 ?_|refine n7 ?_|refine n8 ?_|refine n9 ?_|refine n0 ?_|refine ⟨⟨by omega, by omega⟩, ?_⟩|((first|refine rg 0 [] [] [] ?_|refine rg 1 [] [1, 2] [] ?_|refine rg 2 [1, 2] [1, 28] [(2, 20), (6, 24)] ?_|refine rg 3 [] [0] [] ?_|refine rg 4 [1] [1, 3] [] ?_|refine rg 5 [1, 3] [1, 3] [] ?_|refine rg 6 [1, 3] [1, 3] [] ?_|refine rg 7 [1, 3] [1, 3, 6] [] ?_|refine rg 8 [1, 3, 6] [1, 3, 6, 7, 8] [] ?_|refine rg 9 [1, 3, 6, 7, 8] [1, 3, 6, 7, 8, 9] [] ?_|refine rg 10 [1, 3, 6, 7, 8, 9] [1, 3, 6, 7, 8, 9] [] ?_|refine rg 11 [1, 3, 6, 7, 8, 9] [3, 6, 7, 8, 9, 11, 12] [] ?_|refine rg 12 [3, 6, 7, 8, 9, 11, 12] [0] [(2, 70), (6, 74), (10, 78), (16, 84), (20, 88), (26, 94)] ?_|refine nc ?_);simp (maxSteps := 1000000) [hF])
 refine (new_ok).go [] (by simp (maxSteps := 1000000) [hF]) ?_;rintro av X κ ⟨rfl, rfl, rfl⟩;simp (maxSteps := 1000000) [hF]
 repeat first|refine n1 ?_|refine n2 ?_|refine n3 ?_|refine n4 ?_|refine n5 ?_|refine n6 ?_|refine n7 ?_|refine n8 ?_|refine n9 ?_|refine n0 ?_|refine ⟨⟨by omega, by omega⟩, ?_⟩|((first|refine rg 0 [] [] [] ?_|refine rg 1 [] [1, 2] [] ?_|refine rg 2 [1, 2] [1, 28] [(2, 20), (6, 24)] ?_|refine rg 3 [] [0] [] ?_|refine rg 4 [1] [1, 3] [] ?_|refine rg 5 [1, 3] [1, 3] [] ?_|refine rg 6 [1, 3] [1, 3] [] ?_|refine rg 7 [1, 3] [1, 3, 6] [] ?_|refine rg 8 [1, 3, 6] [1, 3, 6, 7, 8] [] ?_|refine rg 9 [1, 3, 6, 7, 8] [1, 3, 6, 7, 8, 9] [] ?_|refine rg 10 [1, 3, 6, 7, 8, 9] [1, 3, 6, 7, 8, 9] [] ?_|refine rg 11 [1, 3, 6, 7, 8, 9] [3, 6, 7, 8, 9, 11, 12] [] ?_|refine rg 12 [3, 6, 7, 8, 9, 11, 12] [0] [(2, 70), (6, 74), (10, 78), (16, 84), (20, 88), (26, 94)] ?_|refine nc ?_);simp (maxSteps := 1000000) [hF])
 refine (New_ok L0_OK (by decide)).go [(0, [])] (by simp (maxSteps := 1000000) [hF, dL]) ?_;rintro av X κ ⟨rfl, rfl, rfl⟩;simp (maxSteps := 1000000) [hF, dL]
 repeat first|refine n1 ?_|refine n2 ?_|refine n3 ?_|refine n4 ?_|refine n5 ?_|refine n6 ?_|refine n7 ?_|refine n8 ?_|refine n9 ?_|refine n0 ?_|refine ⟨⟨by omega, by omega⟩, ?_⟩|((first|refine rg 0 [] [] [] ?_|refine rg 1 [] [1, 2] [] ?_|refine rg 2 [1, 2] [1, 28] [(2, 20), (6, 24)] ?_|refine rg 3 [] [0] [] ?_|refine rg 4 [1] [1, 3] [] ?_|refine rg 5 [1, 3] [1, 3] [] ?_|refine rg 6 [1, 3] [1, 3] [] ?_|refine rg 7 [1, 3] [1, 3, 6] [] ?_|refine rg 8 [1, 3, 6] [1, 3, 6, 7, 8] [] ?_|refine rg 9 [1, 3, 6, 7, 8] [1, 3, 6, 7, 8, 9] [] ?_|refine rg 10 [1, 3, 6, 7, 8, 9] [1, 3, 6, 7, 8, 9] [] ?_|refine rg 11 [1, 3, 6, 7, 8, 9] [3, 6, 7, 8, 9, 11, 12] [] ?_|refine rg 12 [3, 6, 7, 8, 9, 11, 12] [0] [(2, 70), (6, 74), (10, 78), (16, 84), (20, 88), (26, 94)] ?_|refine nc ?_);simp (maxSteps := 1000000) [hF])
 refine (Lineage_ok true ⟨L0, [], []⟩).go [(1, [])] (by simp (maxSteps := 1000000) [hF, dTs, dL]) ?_;rintro av X κ ⟨rfl, rfl, rfl⟩;simp (maxSteps := 1000000) [hF, dTs, dL]
 repeat first|refine n1 ?_|refine n2 ?_|refine n3 ?_|refine n4 ?_|refine n5 ?_|refine n6 ?_|refine n7 ?_|refine n8 ?_|refine n9 ?_|refine n0 ?_|refine ⟨⟨by omega, by omega⟩, ?_⟩|((first|refine rg 0 [] [] [] ?_|refine rg 1 [] [1, 2] [] ?_|refine rg 2 [1, 2] [1, 28] [(2, 20), (6, 24)] ?_|refine rg 3 [] [0] [] ?_|refine rg 4 [1] [1, 3] [] ?_|refine rg 5 [1, 3] [1, 3] [] ?_|refine rg 6 [1, 3] [1, 3] [] ?_|refine rg 7 [1, 3] [1, 3, 6] [] ?_|refine rg 8 [1, 3, 6] [1, 3, 6, 7, 8] [] ?_|refine rg 9 [1, 3, 6, 7, 8] [1, 3, 6, 7, 8, 9] [] ?_|refine rg 10 [1, 3, 6, 7, 8, 9] [1, 3, 6, 7, 8, 9] [] ?_|refine rg 11 [1, 3, 6, 7, 8, 9] [3, 6, 7, 8, 9, 11, 12] [] ?_|refine rg 12 [3, 6, 7, 8, 9, 11, 12] [0] [(2, 70), (6, 74), (10, 78), (16, 84), (20, 88), (26, 94)] ?_|refine nc ?_);simp (maxSteps := 1000000) [hF])
 refine (Lineage_ok true ⟨L0, [], []⟩).go [(1, [])] (by simp (maxSteps := 1000000) [hF, dTs, dL]) ?_;rintro av X κ ⟨rfl, rfl, rfl⟩;simp (maxSteps := 1000000) [hF, dTs, dL]
 repeat first|refine n1 ?_|refine n2 ?_|refine n3 ?_|refine n4 ?_|refine n5 ?_|refine n6 ?_|refine n7 ?_|refine n8 ?_|refine n9 ?_|refine n0 ?_|refine ⟨⟨by omega, by omega⟩, ?_⟩|((first|refine rg 0 [] [] [] ?_|refine rg 1 [] [1, 2] [] ?_|refine rg 2 [1, 2] [1, 28] [(2, 20), (6, 24)] ?_|refine rg 3 [] [0] [] ?_|refine rg 4 [1] [1, 3] [] ?_|refine rg 5 [1, 3] [1, 3] [] ?_|refine rg 6 [1, 3] [1, 3] [] ?_|refine rg 7 [1, 3] [1, 3, 6] [] ?_|refine rg 8 [1, 3, 6] [1, 3, 6, 7, 8] [] ?_|refine rg 9 [1, 3, 6, 7, 8] [1, 3, 6, 7, 8, 9] [] ?_|refine rg 10 [1, 3, 6, 7, 8, 9] [1, 3, 6, 7, 8, 9] [] ?_|refine rg 11 [1, 3, 6, 7, 8, 9] [3, 6, 7, 8, 9, 11, 12] [] ?_|refine rg 12 [3, 6, 7, 8, 9, 11, 12] [0] [(2, 70), (6, 74), (10, 78), (16, 84), (20, 88), (26, 94)] ?_|refine nc ?_);simp (maxSteps := 1000000) [hF])
 refine (c1).go [(1, [.d, .f 0])] (by simp (maxSteps := 1000000) [hF, dTs, dL]) ?_;rintro av X κ ⟨rfl, rfl, rfl⟩;simp (maxSteps := 1000000) [hF, dTs, dL]
 repeat first|refine n1 ?_|refine n2 ?_|refine n3 ?_|refine n4 ?_|refine n5 ?_|refine n6 ?_|refine n7 ?_|refine n8 ?_|refine n9 ?_|refine n0 ?_|refine ⟨⟨by omega, by omega⟩, ?_⟩|((first|refine rg 0 [] [] [] ?_|refine rg 1 [] [1, 2] [] ?_|refine rg 2 [1, 2] [1, 28] [(2, 20), (6, 24)] ?_|refine rg 3 [] [0] [] ?_|refine rg 4 [1] [1, 3] [] ?_|refine rg 5 [1, 3] [1, 3] [] ?_|refine rg 6 [1, 3] [1, 3] [] ?_|refine rg 7 [1, 3] [1, 3, 6] [] ?_|refine rg 8 [1, 3, 6] [1, 3, 6, 7, 8] [] ?_|refine rg 9 [1, 3, 6, 7, 8] [1, 3, 6, 7, 8, 9] [] ?_|refine rg 10 [1, 3, 6, 7, 8, 9] [1, 3, 6, 7, 8, 9] [] ?_|refine rg 11 [1, 3, 6, 7, 8, 9] [3, 6, 7, 8, 9, 11, 12] [] ?_|refine rg 12 [3, 6, 7, 8, 9, 11, 12] [0] [(2, 70), (6, 74), (10, 78), (16, 84), (20, 88), (26, 94)] ?_|refine nc ?_);simp (maxSteps := 1000000) [hF])
 refine (c2).go [(1, [])] (by simp (maxSteps := 1000000) [hF, dTs, dL, n1L, n1t, n1f, n2L, n2f]) ?_;rintro av X κ ⟨rfl, rfl, rfl⟩;simp (maxSteps := 1000000) [hF, dTs, dL, n1L, n1t, n1f, n2L, n2f]
 repeat first|refine n1 ?_|refine n2 ?_|refine n3 ?_|refine n4 ?_|refine n5 ?_|refine n6 ?_|refine n7 ?_|refine n8 ?_|refine n9 ?_|refine n0 ?_|refine ⟨⟨by omega, by omega⟩, ?_⟩|((first|refine rg 0 [] [] [] ?_|refine rg 1 [] [1, 2] [] ?_|refine rg 2 [1, 2] [1, 28] [(2, 20), (6, 24)] ?_|refine rg 3 [] [0] [] ?_|refine rg 4 [1] [1, 3] [] ?_|refine rg 5 [1, 3] [1, 3] [] ?_|refine rg 6 [1, 3] [1, 3] [] ?_|refine rg 7 [1, 3] [1, 3, 6] [] ?_|refine rg 8 [1, 3, 6] [1, 3, 6, 7, 8] [] ?_|refine rg 9 [1, 3, 6, 7, 8] [1, 3, 6, 7, 8, 9] [] ?_|refine rg 10 [1, 3, 6, 7, 8, 9] [1, 3, 6, 7, 8, 9] [] ?_|refine rg 11 [1, 3, 6, 7, 8, 9] [3, 6, 7, 8, 9, 11, 12] [] ?_|refine rg 12 [3, 6, 7, 8, 9, 11, 12] [0] [(2, 70), (6, 74), (10, 78), (16, 84), (20, 88), (26, 94)] ?_|refine nc ?_);simp (maxSteps := 1000000) [hF])
 refine (c3).go [(1, [])] (by simp (maxSteps := 1000000) [hF, dTs, dL, n2L, n2f, n3L, n3f]) ?_;rintro av X κ ⟨rfl, rfl, rfl⟩;simp (maxSteps := 1000000) [hF, dTs, dL, n2L, n2f, n3L, n3f]
 repeat first|refine n1 ?_|refine n2 ?_|refine n3 ?_|refine n4 ?_|refine n5 ?_|refine n6 ?_|refine n7 ?_|refine n8 ?_|refine n9 ?_|refine n0 ?_|refine ⟨⟨by omega, by omega⟩, ?_⟩|((first|refine rg 0 [] [] [] ?_|refine rg 1 [] [1, 2] [] ?_|refine rg 2 [1, 2] [1, 28] [(2, 20), (6, 24)] ?_|refine rg 3 [] [0] [] ?_|refine rg 4 [1] [1, 3] [] ?_|refine rg 5 [1, 3] [1, 3] [] ?_|refine rg 6 [1, 3] [1, 3] [] ?_|refine rg 7 [1, 3] [1, 3, 6] [] ?_|refine rg 8 [1, 3, 6] [1, 3, 6, 7, 8] [] ?_|refine rg 9 [1, 3, 6, 7, 8] [1, 3, 6, 7, 8, 9] [] ?_|refine rg 10 [1, 3, 6, 7, 8, 9] [1, 3, 6, 7, 8, 9] [] ?_|refine rg 11 [1, 3, 6, 7, 8, 9] [3, 6, 7, 8, 9, 11, 12] [] ?_|refine rg 12 [3, 6, 7, 8, 9, 11, 12] [0] [(2, 70), (6, 74), (10, 78), (16, 84), (20, 88), (26, 94)] ?_|refine nc ?_);simp (maxSteps := 1000000) [hF])
 refine (c4).go [(1, [])] (by simp (maxSteps := 1000000) [hF, dTs, dL, n3L, n3f, dFo, dEnt]) ?_;rintro av X κ ⟨rfl, rfl, rfl⟩;simp (maxSteps := 1000000) [hF, dTs, dL, n3L, n3f, dFo, dEnt]
 repeat first|refine n1 ?_|refine n2 ?_|refine n3 ?_|refine n4 ?_|refine n5 ?_|refine n6 ?_|refine n7 ?_|refine n8 ?_|refine n9 ?_|refine n0 ?_|refine ⟨⟨by omega, by omega⟩, ?_⟩|((first|refine rg 0 [] [] [] ?_|refine rg 1 [] [1, 2] [] ?_|refine rg 2 [1, 2] [1, 28] [(2, 20), (6, 24)] ?_|refine rg 3 [] [0] [] ?_|refine rg 4 [1] [1, 3] [] ?_|refine rg 5 [1, 3] [1, 3] [] ?_|refine rg 6 [1, 3] [1, 3] [] ?_|refine rg 7 [1, 3] [1, 3, 6] [] ?_|refine rg 8 [1, 3, 6] [1, 3, 6, 7, 8] [] ?_|refine rg 9 [1, 3, 6, 7, 8] [1, 3, 6, 7, 8, 9] [] ?_|refine rg 10 [1, 3, 6, 7, 8, 9] [1, 3, 6, 7, 8, 9] [] ?_|refine rg 11 [1, 3, 6, 7, 8, 9] [3, 6, 7, 8, 9, 11, 12] [] ?_|refine rg 12 [3, 6, 7, 8, 9, 11, 12] [0] [(2, 70), (6, 74), (10, 78), (16, 84), (20, 88), (26, 94)] ?_|refine nc ?_);simp (maxSteps := 1000000) [hF])
 refine (c5).go [(1, [])] (by simp (maxSteps := 1000000) [hF, dTs, dL, n3L, n3f, dFo, dEnt]) ?_;rintro av X κ ⟨rfl, rfl, rfl⟩;simp (maxSteps := 1000000) [hF, dTs, dL, n3L, n3f, dFo, dEnt]
 repeat first|refine n1 ?_|refine n2 ?_|refine n3 ?_|refine n4 ?_|refine n5 ?_|refine n6 ?_|refine n7 ?_|refine n8 ?_|refine n9 ?_|refine n0 ?_|refine ⟨⟨by omega, by omega⟩, ?_⟩|((first|refine rg 0 [] [] [] ?_|refine rg 1 [] [1, 2] [] ?_|refine rg 2 [1, 2] [1, 28] [(2, 20), (6, 24)] ?_|refine rg 3 [] [0] [] ?_|refine rg 4 [1] [1, 3] [] ?_|refine rg 5 [1, 3] [1, 3] [] ?_|refine rg 6 [1, 3] [1, 3] [] ?_|refine rg 7 [1, 3] [1, 3, 6] [] ?_|refine rg 8 [1, 3, 6] [1, 3, 6, 7, 8] [] ?_|refine rg 9 [1, 3, 6, 7, 8] [1, 3, 6, 7, 8, 9] [] ?_|refine rg 10 [1, 3, 6, 7, 8, 9] [1, 3, 6, 7, 8, 9] [] ?_|refine rg 11 [1, 3, 6, 7, 8, 9] [3, 6, 7, 8, 9, 11, 12] [] ?_|refine rg 12 [3, 6, 7, 8, 9, 11, 12] [0] [(2, 70), (6, 74), (10, 78), (16, 84), (20, 88), (26, 94)] ?_|refine nc ?_);simp (maxSteps := 1000000) [hF])
 refine (Lineage_ok true s3).go [(1, [])] (by simp (maxSteps := 1000000) [hF, dTs, dL, n3L, n3f]) ?_;rintro av X κ ⟨rfl, rfl, rfl⟩;simp (maxSteps := 1000000) [hF, dTs, dL, n3L, n3f]
 repeat first|refine n1 ?_|refine n2 ?_|refine n3 ?_|refine n4 ?_|refine n5 ?_|refine n6 ?_|refine n7 ?_|refine n8 ?_|refine n9 ?_|refine n0 ?_|refine ⟨⟨by omega, by omega⟩, ?_⟩|((first|refine rg 0 [] [] [] ?_|refine rg 1 [] [1, 2] [] ?_|refine rg 2 [1, 2] [1, 28] [(2, 20), (6, 24)] ?_|refine rg 3 [] [0] [] ?_|refine rg 4 [1] [1, 3] [] ?_|refine rg 5 [1, 3] [1, 3] [] ?_|refine rg 6 [1, 3] [1, 3] [] ?_|refine rg 7 [1, 3] [1, 3, 6] [] ?_|refine rg 8 [1, 3, 6] [1, 3, 6, 7, 8] [] ?_|refine rg 9 [1, 3, 6, 7, 8] [1, 3, 6, 7, 8, 9] [] ?_|refine rg 10 [1, 3, 6, 7, 8, 9] [1, 3, 6, 7, 8, 9] [] ?_|refine rg 11 [1, 3, 6, 7, 8, 9] [3, 6, 7, 8, 9, 11, 12] [] ?_|refine rg 12 [3, 6, 7, 8, 9, 11, 12] [0] [(2, 70), (6, 74), (10, 78), (16, 84), (20, 88), (26, 94)] ?_|refine nc ?_);simp (maxSteps := 1000000) [hF])
 refine (c6).go [(1, [.d, .f 0])] (by simp (maxSteps := 1000000) [hF, dTs, dL]) ?_;rintro av X κ ⟨rfl, rfl, rfl⟩;simp (maxSteps := 1000000) [hF, dTs, dL]
 repeat first|refine n1 ?_|refine n2 ?_|refine n3 ?_|refine n4 ?_|refine n5 ?_|refine n6 ?_|refine n7 ?_|refine n8 ?_|refine n9 ?_|refine n0 ?_|refine ⟨⟨by omega, by omega⟩, ?_⟩|((first|refine rg 0 [] [] [] ?_|refine rg 1 [] [1, 2] [] ?_|refine rg 2 [1, 2] [1, 28] [(2, 20), (6, 24)] ?_|refine rg 3 [] [0] [] ?_|refine rg 4 [1] [1, 3] [] ?_|refine rg 5 [1, 3] [1, 3] [] ?_|refine rg 6 [1, 3] [1, 3] [] ?_|refine rg 7 [1, 3] [1, 3, 6] [] ?_|refine rg 8 [1, 3, 6] [1, 3, 6, 7, 8] [] ?_|refine rg 9 [1, 3, 6, 7, 8] [1, 3, 6, 7, 8, 9] [] ?_|refine rg 10 [1, 3, 6, 7, 8, 9] [1, 3, 6, 7, 8, 9] [] ?_|refine rg 11 [1, 3, 6, 7, 8, 9] [3, 6, 7, 8, 9, 11, 12] [] ?_|refine rg 12 [3, 6, 7, 8, 9, 11, 12] [0] [(2, 70), (6, 74), (10, 78), (16, 84), (20, 88), (26, 94)] ?_|refine nc ?_);simp (maxSteps := 1000000) [hF])
 refine (c7).go [(1, [])] (by simp (maxSteps := 1000000) [hF, dTs, dL, n4L, n4t, n4f, n5L, n5f]) ?_;rintro av X κ ⟨rfl, rfl, rfl⟩;simp (maxSteps := 1000000) [hF, dTs, dL, n4L, n4t, n4f, n5L, n5f]
 repeat first|refine n1 ?_|refine n2 ?_|refine n3 ?_|refine n4 ?_|refine n5 ?_|refine n6 ?_|refine n7 ?_|refine n8 ?_|refine n9 ?_|refine n0 ?_|refine ⟨⟨by omega, by omega⟩, ?_⟩|((first|refine rg 0 [] [] [] ?_|refine rg 1 [] [1, 2] [] ?_|refine rg 2 [1, 2] [1, 28] [(2, 20), (6, 24)] ?_|refine rg 3 [] [0] [] ?_|refine rg 4 [1] [1, 3] [] ?_|refine rg 5 [1, 3] [1, 3] [] ?_|refine rg 6 [1, 3] [1, 3] [] ?_|refine rg 7 [1, 3] [1, 3, 6] [] ?_|refine rg 8 [1, 3, 6] [1, 3, 6, 7, 8] [] ?_|refine rg 9 [1, 3, 6, 7, 8] [1, 3, 6, 7, 8, 9] [] ?_|refine rg 10 [1, 3, 6, 7, 8, 9] [1, 3, 6, 7, 8, 9] [] ?_|refine rg 11 [1, 3, 6, 7, 8, 9] [3, 6, 7, 8, 9, 11, 12] [] ?_|refine rg 12 [3, 6, 7, 8, 9, 11, 12] [0] [(2, 70), (6, 74), (10, 78), (16, 84), (20, 88), (26, 94)] ?_|refine nc ?_);simp (maxSteps := 1000000) [hF])
 refine (c8).go [(6, []), (1, [])] (by simp (maxSteps := 1000000) [hF, dInts_one, dTs, dL, n5L, n5f, dFo, dEnt]) ?_;rintro av X κ ⟨rfl, rfl, rfl⟩;simp (maxSteps := 1000000) [hF, dInts_one, dTs, dL, n5L, n5f, dFo, dEnt]
 repeat first|refine n1 ?_|refine n2 ?_|refine n3 ?_|refine n4 ?_|refine n5 ?_|refine n6 ?_|refine n7 ?_|refine n8 ?_|refine n9 ?_|refine n0 ?_|refine ⟨⟨by omega, by omega⟩, ?_⟩|((first|refine rg 0 [] [] [] ?_|refine rg 1 [] [1, 2] [] ?_|refine rg 2 [1, 2] [1, 28] [(2, 20), (6, 24)] ?_|refine rg 3 [] [0] [] ?_|refine rg 4 [1] [1, 3] [] ?_|refine rg 5 [1, 3] [1, 3] [] ?_|refine rg 6 [1, 3] [1, 3] [] ?_|refine rg 7 [1, 3] [1, 3, 6] [] ?_|refine rg 8 [1, 3, 6] [1, 3, 6, 7, 8] [] ?_|refine rg 9 [1, 3, 6, 7, 8] [1, 3, 6, 7, 8, 9] [] ?_|refine rg 10 [1, 3, 6, 7, 8, 9] [1, 3, 6, 7, 8, 9] [] ?_|refine rg 11 [1, 3, 6, 7, 8, 9] [3, 6, 7, 8, 9, 11, 12] [] ?_|refine rg 12 [3, 6, 7, 8, 9, 11, 12] [0] [(2, 70), (6, 74), (10, 78), (16, 84), (20, 88), (26, 94)] ?_|refine nc ?_);simp (maxSteps := 1000000) [hF])
 (try refine nr ?_);(repeat first|refine nb_ ?_|refine nl_ ?_);refine endK.o [0] [] [] ?_;simp [hF, retK, covers, mpre]
end Go.Proofs.Ytbhigdljojlhnaa
