/- The library's sort of texts, in place: the kit's contract, carried over. -/
import Derived.Test.YtbhigdljojlhnaaGreatK3
import Derived.Test.YtbhigdljojlhnaaGreatK5
import Derived.Shelf.Sort.Plain
namespace Go.Vc
set_option linter.all false
open Go.Proofs Go.Shelf Go.Sort Go.RowKit
open T (hdr blk)
def strs (l:List ByteArray):D:=sq (l.map fun n=>.val (.string n))
end Go.Vc

/- Tables of methods, plainly: lists of pairs; what is found. -/
namespace Go.Proofs.YtbhigdljojlhnaaGreat
set_option linter.all false
open Go.Vc Go.Proofs
open Go.Vc.T (keyT keyT_inj)
section
variable {κ α:Type} [DecidableEq κ]
def aget:List (κ×α)→κ→Option α
 | [],_=>none
 | e :: l,k=>if e.1 = k then some e.2 else aget l k
def aput:List (κ×α)→κ→α→List (κ×α)
 | [],k,v=>[(k,v)]
 | e :: l,k,v=>if e.1 = k then (e.1,v) :: l else e :: aput l k v
def adel:List (κ×α)→κ→List (κ×α)
 | [],_=>[]
 | e :: l,k=>if e.1 = k then l else e :: adel l k
def aidx:List (κ×α)→κ→Nat
 | [],_=>0
 | e :: l,k=>if e.1 = k then 0 else aidx l k + 1
theorem aget_put (l:List (κ×α)) (k k':κ) (v:α):aget (aput l k v) k' = if k' = k then some v else aget l k':=by
 induction l with
 | nil =>
  by_cases h:k' = k
  ·subst h;simp [aput,aget]
  ·simp [aput,aget,h,Ne.symm h]
 | cons e l ih =>
  unfold aput
  by_cases h:e.1 = k
  ·rw [if_pos h]
   by_cases h':k' = k
   ·rw [if_pos h'];simp [aget,h,h']
   ·rw [if_neg h']
    have:¬ e.1 = k':=fun q=>h' (by rw [←q,h])
    simp [aget,this]
  ·rw [if_neg h]
   by_cases h':e.1 = k'
   ·have hne:¬ k' = k:=fun q=>h (by rw [h',q])
    simp [aget,h',hne]
   ·simp only [aget,if_neg h',ih]
theorem aput_put (l:List (κ×α)) (k:κ) (u v:α):aput (aput l k u) k v = aput l k v:=by
 induction l with
 | nil=>simp [aput]
 | cons e l ih =>
  unfold aput
  by_cases h:e.1 = k
  ·simp [aput,h]
  ·simp [aput,h,ih]
theorem aget_mem {l:List (κ×α)} {k:κ} {v:α} (h:aget l k = some v):(k,v)∈l:=by
 induction l with
 | nil=>cases h
 | cons e l ih =>
  unfold aget at h
  by_cases he:e.1 = k
  ·rw [if_pos he] at h;cases h;subst he;simp
  ·rw [if_neg he] at h;exact List.mem_cons_of_mem _ (ih h)
theorem aget_none {l:List (κ×α)} {k:κ}:aget l k = none↔k∉l.map (·.1):=by
 induction l with
 | nil=>simp [aget]
 | cons e l ih =>
  unfold aget
  by_cases he:e.1 = k
  ·rw [if_pos he];simp [he]
  ·rw [if_neg he,ih];simp [Ne.symm he]
theorem aget_del {l:List (κ×α)} (hn:(l.map (·.1)).Nodup) (k k':κ):aget (adel l k) k' = if k' = k then none else aget l k':=by
 induction l with
 | nil=>simp [adel,aget]
 | cons e l ih =>
  simp only [List.map_cons,List.nodup_cons] at hn
  unfold adel
  by_cases h:e.1 = k
  ·rw [if_pos h]
   by_cases h':k' = k
   ·rw [if_pos h',aget_none];rw [h',←h];exact hn.1
   ·rw [if_neg h']
    have:¬ e.1 = k':=fun q=>h' (by rw [←q,h])
    simp [aget,this]
  ·rw [if_neg h]
   by_cases h':e.1 = k'
   ·have hne:¬ k' = k:=fun q=>h (by rw [h',q])
    simp [aget,h',hne]
   ·simp only [aget,if_neg h',ih hn.2]
theorem aput_keys (l:List (κ×α)) (k:κ) (v:α):(aput l k v).map (·.1) = if k∈l.map (·.1) then l.map (·.1) else l.map (·.1) ++ [k]:=by
 induction l with
 | nil=>simp [aput]
 | cons e l ih =>
  unfold aput
  by_cases h:e.1 = k
  ·rw [if_pos h];simp [h]
  ·rw [if_neg h,List.map_cons,ih]
   by_cases h':k∈l.map (·.1)
   ·rw [if_pos h',if_pos (by simp only [List.map_cons,List.mem_cons];exact .inr h')];rfl
   ·rw [if_neg h',if_neg (by simp only [List.map_cons,List.mem_cons,not_or];exact ⟨Ne.symm h,h'⟩)];rfl
theorem aput_nodup {l:List (κ×α)} (h:(l.map (·.1)).Nodup) (k:κ) (v:α):((aput l k v).map (·.1)).Nodup:=by
 rw [aput_keys]
 split
 ·exact h
 ·rename_i hk
  rw [List.nodup_append]
  exact ⟨h,by simp,fun a ha b hb=>by rw [List.mem_singleton] at hb;subst hb;exact fun q=>hk (q ▸ ha)⟩
theorem adel_sub (l:List (κ×α)) (k:κ):(adel l k).Sublist l:=by
 induction l with
 | nil=>exact List.Sublist.slnil
 | cons e l ih =>
  unfold adel
  split
  ·exact List.sublist_cons_self ..
  ·exact ih.cons₂ _
theorem adel_nodup {l:List (κ×α)} (h:(l.map (·.1)).Nodup) (k:κ):((adel l k).map (·.1)).Nodup:=((adel_sub l k).map _).nodup h
theorem aidx_lt {l:List (κ×α)} {k:κ} {v:α} (h:aget l k = some v):∃ hi:aidx l k < l.length,l[aidx l k] = (k,v):=by
 induction l with
 | nil=>cases h
 | cons e l ih =>
  unfold aget at h
  unfold aidx
  by_cases he:e.1 = k
  ·rw [if_pos he] at h
   cases h
   subst he
   simp only [if_true]
   exact ⟨by simp,rfl⟩
  ·rw [if_neg he] at h
   obtain ⟨hi,hv⟩:=ih h
   simp only [if_neg he]
   exact ⟨by simp only [List.length_cons];omega,by simpa using hv⟩
theorem aput_at {l:List (κ×α)} {k:κ} {v u:α} (h:aget l k = some v):aput l k u = l.set (aidx l k) (k,u):=by
 induction l with
 | nil=>cases h
 | cons e l ih =>
  unfold aget at h
  unfold aput aidx
  by_cases he:e.1 = k
  ·rw [if_pos he,if_pos he];subst he;rfl
  ·rw [if_neg he] at h
   rw [if_neg he,if_neg he,ih h];rfl
theorem aput_len (l:List (κ×α)) (k:κ) (v:α):(aput l k v).length≤l.length + 1:=by
 have:=congrArg List.length (aput_keys l k v)
 rw [List.length_map] at this
 rw [this]
 split <;> simp
theorem adel_len (l:List (κ×α)) (k:κ):(adel l k).length≤l.length:=(adel_sub l k).length_le
end
@[simp] theorem strs_len (l:List ByteArray):(strs l).len = l.length:=by simp [strs]
@[simp] theorem strs_free (l:List ByteArray):(strs l).free = true:=sq_free fun x hx=>by obtain ⟨n,_,rfl⟩:=List.mem_map.1 hx;rfl
theorem strs_nth {l:List ByteArray} {i:Nat} (h:i < l.length):(strs l).nth i = .val (.string l[i]):=by rw [strs,sq_nth_lt (by simpa using h)];simp
@[simp] theorem strs_nil:strs [] = .nil:=rfl
@[simp] theorem strs_app (l m:List ByteArray):(strs l).app (strs m) = strs (l ++ m):=by simp [strs,sq_app]
@[simp] theorem strs_app1 (l:List ByteArray) (n:ByteArray):(strs l).app (.cons (.val (.string n)) .nil) = strs (l ++ [n]):=strs_app l [n]
@[simp] theorem strs_mid_all (l:List ByteArray):(strs l).mid 0 l.length = strs l:=sq_mid_all _ _ (by simp)
@[simp] theorem strs_mid1 (l:List ByteArray) (n:ByteArray):(strs (l ++ [n])).mid 0 (l.length + 1) = strs (l ++ [n]):=sq_mid_all _ _ (by simp)
theorem strs_mid (l:List ByteArray) (lo n:Nat):(strs l).mid lo n = strs ((l.drop lo).take n):=by simp only [strs,sq_mid,←List.map_drop,←List.map_take]
@[simp] theorem freeze_strs (l:List ByteArray):(strs l).freeze = strs l:=by
 rw [strs,freeze_sq,List.map_map];rfl
theorem strs_one (s:ByteArray):(.cons (.val (.string s)) .nil:D) = strs [s]:=rfl
@[simp] theorem width_dL (L:List Th):(dL L).width = 1:=rfl
structure En where
 body:Int
 vis:Int
 home:Int
 known:ByteArray
 deriving DecidableEq
def dEnt (e:En):D:=.agg (.cons (.val (.int .i64 e.body)) (.cons (.val (.int .i64 e.vis)) (.cons (.val (.int .i64 e.home)) (.cons (.val (.string e.known)) .nil))))
abbrev Tb:=List (ByteArray×En)
abbrev Key:=Int×Int
def dNs (l:Tb):D:=sq (l.map fun e=>.agg (.cons (.val (.string e.1)) (.cons (dEnt e.2) .nil)))
def dRows (o:Bool) (l:List (Key×Tb)):D:=sq (l.map fun e=>.agg (.cons (.agg (.cons (.val (.int .i64 e.1.1)) (.cons (.val (.int .i64 e.1.2)) .nil))) (.cons (.map o () (dNs e.2)) .nil)))
def dFz (l:List (Int×Bool)):D:=sq (l.map fun e=>.agg (.cons (.val (.int .i64 e.1)) (.cons (.val (.bool e.2)) .nil)))
structure Mt where
 L:List Th
 tabs:List (Key×Tb)
 fz:List (Int×Bool)
def dTs (o:Bool) (s:Mt):D:=.box true () (.agg (.cons (dL s.L) (.cons (.map o () (dRows o s.tabs)) (.cons (.map true () (dFz s.fz)) .nil))))
@[simp high] theorem head_dTs (o:Bool) (s:Mt):isHead (dTs o s) = true:=by rw [dTs,isHead]
abbrev keyV (k:Key):Value:=.agg #[.int .i64 k.1,.int .i64 k.2]
theorem keyT_two {α:Type} (a b:Int):(keyT (.agg #[.int .i64 a,.int .i64 b]):T α) = .agg (.cons (.val (.int .i64 a)) (.cons (.val (.int .i64 b)) .nil)):=rfl
theorem two_eq {a b c d:Int}:((.agg (.cons (.val (.int .i64 a)) (.cons (.val (.int .i64 b)) .nil)):D) = keyT (.agg #[.int .i64 c,.int .i64 d]))↔(a,b) = (c,d):=by
 rw [keyT_two];simp
section
variable (o:Bool) (l:List (Key×Tb)) (a b:Int)
@[simp] theorem dNs_nil:dNs [] = .nil:=rfl
@[simp] theorem dRows_nil:dRows o [] = .nil:=rfl
@[simp] theorem dFz_nil:dFz [] = .nil:=rfl
theorem dRows_cons (e:Key×Tb):dRows o (e :: l) = .cons (.agg (.cons (.agg (.cons (.val (.int .i64 e.1.1)) (.cons (.val (.int .i64 e.1.2)) .nil))) (.cons (.map o () (dNs e.2)) .nil))) (dRows o l):=rfl
theorem dNs_cons (e:ByteArray×En) (t:Tb):dNs (e :: t) = .cons (.agg (.cons (.val (.string e.1)) (.cons (dEnt e.2) .nil))) (dNs t):=rfl
theorem dFz_cons (e:Int×Bool) (t:List (Int×Bool)):dFz (e :: t) = .cons (.agg (.cons (.val (.int .i64 e.1)) (.cons (.val (.bool e.2)) .nil))) (dFz t):=rfl
@[simp] theorem dRows_len:(dRows o l).len = l.length:=by simp [dRows]
@[simp] theorem dNs_len (t:Tb):(dNs t).len = t.length:=by simp [dNs]
@[simp] theorem dRows_keys:mkeysOk .two (dRows o l) = True:=by
 refine eq_true ?_
 induction l with
 | nil=>trivial
 | cons e l ih=>rw [dRows_cons];exact ⟨⟨.agg #[.int .i64 e.1.1,.int .i64 e.1.2],rfl,_,_,rfl⟩,ih⟩
@[simp] theorem dNs_keys (t:Tb):mkeysOk .str (dNs t) = True:=by
 refine eq_true ?_
 induction t with
 | nil=>trivial
 | cons e l ih=>rw [dNs_cons];exact ⟨⟨.string e.1,rfl,trivial⟩,ih⟩
@[simp] theorem dFz_keys (t:List (Int×Bool)):mkeysOk (.int .i64) (dFz t) = True:=by
 refine eq_true ?_
 induction t with
 | nil=>trivial
 | cons e l ih=>rw [dFz_cons];exact ⟨⟨.int .i64 e.1,rfl,rfl⟩,ih⟩
@[simp] theorem nil_keys (k:KK):mkeysOk k .nil = True:=eq_true trivial
theorem dRows_find:mfind (.agg #[.int .i64 a,.int .i64 b]) (dRows o l) = (aget l (a,b)).map fun t=>.map o () (dNs t):=by
 induction l with
 | nil=>rfl
 | cons e l ih =>
  rw [dRows_cons]
  unfold mfind aget
  by_cases h:e.1 = (a,b)
  ·rw [if_pos (two_eq.2 h),if_pos h];rfl
  ·rw [if_neg (fun q=>h (two_eq.1 q)),if_neg h,ih]
theorem dRows_ix:mix (.agg #[.int .i64 a,.int .i64 b]) (dRows o l) = aidx l (a,b):=by
 induction l with
 | nil=>rfl
 | cons e l ih =>
  rw [dRows_cons]
  unfold mix aidx
  by_cases h:e.1 = (a,b)
  ·rw [if_pos (two_eq.2 h),if_pos h]
  ·rw [if_neg (fun q=>h (two_eq.1 q)),if_neg h,ih]
theorem dRows_put (t:Tb):mput (.agg #[.int .i64 a,.int .i64 b]) (.map o () (dNs t)) (dRows o l) = dRows o (aput l (a,b) t):=by
 induction l with
 | nil=>rfl
 | cons e l ih =>
  rw [dRows_cons]
  unfold mput aput
  by_cases h:e.1 = (a,b)
  ·rw [if_pos (two_eq.2 h),if_pos h,dRows_cons]
  ·rw [if_neg (fun q=>h (two_eq.1 q)),if_neg h,dRows_cons,ih]
theorem str_eq {a b:ByteArray}:((.val (.string a):D) = keyT (.string b))↔a = b:=by rw [keyT_str];simp
theorem dNs_find (t:Tb) (n:ByteArray):mfind (.string n) (dNs t) = (aget t n).map dEnt:=by
 induction t with
 | nil=>rfl
 | cons e l ih =>
  rw [dNs_cons]
  unfold mfind aget
  by_cases h:e.1 = n
  ·rw [if_pos (str_eq.2 h),if_pos h];rfl
  ·rw [if_neg (fun q=>h (str_eq.1 q)),if_neg h,ih]
theorem dNs_put (t:Tb) (n:ByteArray) (v:En):mput (.string n) (dEnt v) (dNs t) = dNs (aput t n v):=by
 induction t with
 | nil=>rfl
 | cons e l ih =>
  rw [dNs_cons]
  unfold mput aput
  by_cases h:e.1 = n
  ·rw [if_pos (str_eq.2 h),if_pos h,dNs_cons]
  ·rw [if_neg (fun q=>h (str_eq.1 q)),if_neg h,dNs_cons,ih]
theorem dNs_del (t:Tb) (n:ByteArray):mdel (.string n) (dNs t) = dNs (adel t n):=by
 induction t with
 | nil=>rfl
 | cons e l ih =>
  rw [dNs_cons]
  unfold mdel adel
  by_cases h:e.1 = n
  ·rw [if_pos (str_eq.2 h),if_pos h]
  ·rw [if_neg (fun q=>h (str_eq.1 q)),if_neg h,dNs_cons,ih]
theorem int_eq {a b:Int}:((.val (.int .i64 a):D) = keyT (.int .i64 b))↔a = b:=by rw [keyT_int];simp
theorem dFz_find (t:List (Int×Bool)) (n:Int):mfind (.int .i64 n) (dFz t) = (aget t n).map fun b=>.val (.bool b):=by
 induction t with
 | nil=>rfl
 | cons e l ih =>
  rw [dFz_cons]
  unfold mfind aget
  by_cases h:e.1 = n
  ·rw [if_pos (int_eq.2 h),if_pos h];rfl
  ·rw [if_neg (fun q=>h (int_eq.1 q)),if_neg h,ih]
theorem dFz_put (t:List (Int×Bool)) (n:Int) (v:Bool):mput (.int .i64 n) (.val (.bool v)) (dFz t) = dFz (aput t n v):=by
 induction t with
 | nil=>rfl
 | cons e l ih =>
  rw [dFz_cons]
  unfold mput aput
  by_cases h:e.1 = n
  ·rw [if_pos (int_eq.2 h),if_pos h,dFz_cons]
  ·rw [if_neg (fun q=>h (int_eq.1 q)),if_neg h,dFz_cons,ih]
theorem dRows_nth {l:List (Key×Tb)} {i:Nat} {k:Key} {t:Tb} (h:∃ hi:i < l.length,l[i] = (k,t)):(dRows o l).nth i = .agg (.cons (.agg (.cons (.val (.int .i64 k.1)) (.cons (.val (.int .i64 k.2)) .nil))) (.cons (.map o () (dNs t)) .nil)):=by
 obtain ⟨hi,h⟩:=h
 rw [dRows,sq_nth_lt (by simpa using hi)];simp [h]
def dRowsX (o:Bool) (l:List (Key×Tb)) (i:Nat) (k:Key) (x:D):D:=(dRows o l).setN i (.agg (.cons (.agg (.cons (.val (.int .i64 k.1)) (.cons (.val (.int .i64 k.2)) .nil))) (.cons x .nil)))
@[simp] theorem dRowsX_len (o:Bool) (l:List (Key×Tb)) (i:Nat) (k:Key) (x:D):(dRowsX o l i k x).len = l.length:=by rw [dRowsX,T.len_setN,dRows_len]
theorem dRowsX_eq (o:Bool) (l:List (Key×Tb)) (i:Nat) (k1 k2:Int) (x:D):(dRows o l).setN i (.agg (.cons (.agg (.cons (.val (.int .i64 k1)) (.cons (.val (.int .i64 k2)) .nil))) (.cons x .nil))) = dRowsX o l i (k1,k2) x:=rfl
theorem dRowsX_nth {o:Bool} {l:List (Key×Tb)} {i:Nat} (hi:i < l.length) (k:Key) (x:D):(dRowsX o l i k x).nth i = .agg (.cons (.agg (.cons (.val (.int .i64 k.1)) (.cons (.val (.int .i64 k.2)) .nil))) (.cons x .nil)):=by
 rw [dRowsX,T.nth_setN_same _ (by simpa using hi)]
theorem setN_setN {α:Type}:∀ (s:T α) (k:Nat) (x y:T α),(s.setN k x).setN k y = s.setN k y
 | .cons _ _,0,_,_=>rfl
 | .cons _ t,k + 1,x,y=>by simp only [T.setN,setN_setN t k x y]
 | .val _,_,_,_=>rfl
 | .junk _,_,_,_=>rfl
 | .nil,_,_,_=>rfl
 | .agg _,_,_,_=>rfl
 | .sl _ _ _ _,_,_,_=>rfl
 | .box _ _ _,_,_,_=>rfl
 | .map _ _ _,_,_,_=>rfl
theorem dRowsX_set (o:Bool) (l:List (Key×Tb)) (i:Nat) (k:Key) (k1 k2:Int) (x y:D):(dRowsX o l i k x).setN i (.agg (.cons (.agg (.cons (.val (.int .i64 k1)) (.cons (.val (.int .i64 k2)) .nil))) (.cons y .nil))) = dRowsX o l i (k1,k2) y:=by
 rw [dRowsX,setN_setN];rfl
theorem dRowsX_map (o:Bool) (l:List (Key×Tb)) (i:Nat) (k:Key) (t:Tb):dRowsX o l i k (.map o () (dNs t)) = dRows o (l.set i (k,t)):=by
 simp only [dRowsX,dRows,sq_setN,List.map_set]
theorem dRowsX_cons0 (o:Bool) (e:Key×Tb) (l:List (Key×Tb)) (k:Key) (x:D):dRowsX o (e :: l) 0 k x = .cons (.agg (.cons (.agg (.cons (.val (.int .i64 k.1)) (.cons (.val (.int .i64 k.2)) .nil))) (.cons x .nil))) (dRows o l):=rfl
theorem dRowsX_consS (o:Bool) (e:Key×Tb) (l:List (Key×Tb)) (i:Nat) (k:Key) (x:D):dRowsX o (e :: l) (i + 1) k x = .cons (.agg (.cons (.agg (.cons (.val (.int .i64 e.1.1)) (.cons (.val (.int .i64 e.1.2)) .nil))) (.cons (.map o () (dNs e.2)) .nil))) (dRowsX o l i k x):=rfl
@[simp] theorem dRowsX_keys (o:Bool) (l:List (Key×Tb)) (i:Nat) (k:Key) (x:D):mkeysOk .two (dRowsX o l i k x) = True:=by
 refine eq_true ?_
 induction l generalizing i with
 | nil=>exact trivial
 | cons e l ih =>
  cases i with
  | zero=>rw [dRowsX_cons0];exact ⟨⟨keyV k,rfl,_,_,rfl⟩,by have:=dRows_keys o l;rw [this];trivial⟩
  | succ i=>rw [dRowsX_consS];exact ⟨⟨keyV e.1,rfl,_,_,rfl⟩,ih i⟩
theorem dRowsX_find {o:Bool} {l:List (Key×Tb)} {a b:Int} {t:Tb} (h:aget l (a,b) = some t) (x:D) :
  mfind (.agg #[.int .i64 a,.int .i64 b]) (dRowsX o l (aidx l (a,b)) (a,b) x) = some x∧mix (.agg #[.int .i64 a,.int .i64 b]) (dRowsX o l (aidx l (a,b)) (a,b) x) = aidx l (a,b):=by
 induction l with
 | nil=>cases h
 | cons e l ih =>
  unfold aget at h
  by_cases he:e.1 = (a,b)
  ·have:aidx (e :: l) (a,b) = 0:=by unfold aidx;rw [if_pos he]
   rw [this,dRowsX_cons0]
   unfold mfind mix
   rw [if_pos (two_eq.2 rfl),if_pos (two_eq.2 rfl)];exact ⟨rfl,rfl⟩
  ·rw [if_neg he] at h
   have:aidx (e :: l) (a,b) = aidx l (a,b) + 1:=by rw [aidx,if_neg he]
   rw [this,dRowsX_consS]
   unfold mfind mix
   rw [if_neg (fun q=>he (two_eq.1 q)),if_neg (fun q=>he (two_eq.1 q))]
   obtain ⟨h1,h2⟩:=ih h
   exact ⟨h1,by rw [h2]⟩
end
end Go.Proofs.YtbhigdljojlhnaaGreat

/- Tables of methods, plainly: what is done with them. -/
namespace Go.Proofs.YtbhigdljojlhnaaGreat
set_option linter.all false
open Go.Vc Go.Proofs
def isNm (s:ByteArray):Bool:=decide (1≤s.size) && decide (s.size≤40)
def modB (s:Mt) (t:Int):Bool:=val s.L t && decide ((thAt s.L t).kind = 1)
def askE (s:Mt) (t:Int) (fine:Bool) (names:List ByteArray):Int:=if (val s.L t && fine) = false then 1 else if names.all isNm = false then 6 else 0
def frz (s:Mt) (t:Int):Bool:=(aget s.fz t).getD false
def chgE (s:Mt) (t:Int) (fine:Bool) (names:List ByteArray):Int:=if (decide (askE s t fine names = 0) && frz s t) = true then 13 else askE s t fine names
noncomputable def placesOf (s:Mt) (t:Int) (act:List Int):List Key:=(ordL s.L t).flatMap fun x=>act.map (fun m=>(x,m)) ++ [(x,-1)]
def lkp (s:Mt) (k:Key) (n:ByteArray):Option En:=(aget s.tabs k).bind fun t=>aget t n
structure Fo where
 e:En
 th:Int
 md:Int
def En.none:En:=⟨0,0,0,⟨#[]⟩⟩
def Fo.none:Fo:=⟨En.none,0,0⟩
def firstOf (s:Mt):List Key→ByteArray→Fo×Bool
 | [],_=>(Fo.none,false)
 | k :: l,n=>match lkp s k n with
  | some e=>(⟨e,k.1,k.2⟩,decide (e.body≠-1))
  | none=>firstOf s l n
noncomputable def findOf (s:Mt) (t:Int) (n:ByteArray) (act:List Int):Fo×Bool:=firstOf s (placesOf s t act) n
def putOf (s:Mt) (k:Key) (n:ByteArray) (e:En):Mt:={ s with tabs:=aput s.tabs k (aput ((aget s.tabs k).getD []) n e) }
def delOf (s:Mt) (k:Key) (n:ByteArray):Mt:={ s with tabs:=match aget s.tabs k with | some t=>aput s.tabs k (adel t n) | none=>s.tabs }
@[simp] theorem putOf_L (s:Mt) (k:Key) (n:ByteArray) (e:En):(putOf s k n e).L = s.L:=rfl
@[simp] theorem putOf_fz (s:Mt) (k:Key) (n:ByteArray) (e:En):(putOf s k n e).fz = s.fz:=rfl
@[simp] theorem delOf_L (s:Mt) (k:Key) (n:ByteArray):(delOf s k n).L = s.L:=rfl
@[simp] theorem delOf_fz (s:Mt) (k:Key) (n:ByteArray):(delOf s k n).fz = s.fz:=rfl
def bodyB (b:Int):Bool:=decide (0≤b) && decide (b≤1000000)
def visB (v:Int):Bool:=decide (0≤v) && decide (v≤2)
def defineOf (s:Mt) (t:Int) (n:ByteArray) (b v:Int):Mt×Int :=
 if chgE s t (bodyB b && visB v) [n] = 0 then (putOf s (t,-1) n ⟨b,v,t,n⟩,0) else (s,chgE s t (bodyB b && visB v) [n])
def refineOf (s:Mt) (m t:Int) (n:ByteArray) (b:Int):Mt×Int :=
 if askE s t (modB s m && bodyB b) [n] = 0 then (putOf s (t,m) n ⟨b,0,t,n⟩,0) else (s,askE s t (modB s m && bodyB b) [n])
noncomputable def undefOf (s:Mt) (t:Int) (n:ByteArray):Mt×Int :=
 if chgE s t true [n]≠0 then (s,chgE s t true [n]) else if (findOf s t n []).2 = false then (s,3) else (putOf s (t,-1) n ⟨-1,0,t,n⟩,0)
def removeOf (s:Mt) (t:Int) (n:ByteArray):Mt×Int :=
 if chgE s t true [n]≠0 then (s,chgE s t true [n]) else if lkp s (t,-1) n = none then (s,3) else (delOf s (t,-1) n,0)
noncomputable def aliasOf (s:Mt) (t:Int) (n old:ByteArray):Mt×Int :=
 if chgE s t true [n,old]≠0 then (s,chgE s t true [n,old]) else if (findOf s t old []).2 = false then (s,3) else (putOf s (t,-1) n (findOf s t old []).1.e,0)
noncomputable def shownOf (s:Mt) (t:Int) (n:ByteArray):En:=match lkp s (t,-1) n with
 | some own=>if own.body≠-1 then own else (findOf s t n []).1.e
 | none=>(findOf s t n []).1.e
noncomputable def showOf (s:Mt) (t:Int) (n:ByteArray) (v:Int):Mt×Int :=
 if chgE s t (visB v) [n]≠0 then (s,chgE s t (visB v) [n]) else if (findOf s t n []).2 = false then (s,3) else (putOf s (t,-1) n { shownOf s t n with vis:=v },0)
def freezeOf (s:Mt) (t:Int):Mt×Int:=if val s.L t = false then (s,1) else ({ s with fz:=aput s.fz t true },0)
def actB (s:Mt) (act:List Int):Bool:=act.all (modB s)
def toldOf (f:Fo×Bool):Fo×Int:=if f.2 = false then (Fo.none,3) else (f.1,0)
noncomputable def FindOf (s:Mt) (t:Int) (n:ByteArray) (act:List Int):Fo×Int :=
 if askE s t (actB s act) [n]≠0 then (Fo.none,askE s t (actB s act) [n]) else toldOf (findOf s t n act)
def isK (a b:Int) (k:Key):Bool:=decide (k.1 = a) && decide (k.2 = b)
noncomputable def superOf (s:Mt) (t:Int) (n:ByteArray) (th md:Int):Fo×Bool :=
 if (placesOf s t []).any (isK th (-1)) = false then (Fo.none,false)
 else firstOf s ((placesOf s t []).drop ((placesOf s t []).findIdx (isK th (-1)) + if md < 0 then 1 else 0)) n
theorem lkp_put (s:Mt) (k k':Key) (n n':ByteArray) (e:En):lkp (putOf s k n e) k' n' = if k' = k∧n' = n then some e else lkp s k' n':=by
 simp only [lkp,putOf,aget_put]
 by_cases h:k' = k
 ·subst h
  simp only [if_true,Option.bind_some,aget_put,true_and]
  by_cases h2:n' = n
  ·simp [h2]
  ·simp only [if_neg h2]
   cases aget s.tabs k' <;> simp [aget]
 ·simp [h]
structure MtOk (s:Mt):Prop where
 ok:OK s.L
 pos:0 < s.L.length
 nd:(s.tabs.map (·.1)).Nodup
 ns:∀ k t,(k,t)∈s.tabs→(t.map (·.1)).Nodup
 nf:(s.fz.map (·.1)).Nodup
theorem lkp_del {s:Mt} (h:MtOk s) (k k':Key) (n n':ByteArray):lkp (delOf s k n) k' n' = if k' = k∧n' = n then none else lkp s k' n':=by
 simp only [lkp,delOf]
 cases hk:aget s.tabs k with
 | none =>
  simp only
  by_cases h2:k' = k∧n' = n
  ·rw [if_pos h2,h2.1,hk];rfl
  ·rw [if_neg h2]
 | some t =>
  have ht:=h.ns k t (aget_mem hk)
  simp only [aget_put]
  by_cases h1:k' = k
  ·subst h1
   simp only [if_true,Option.bind_some,aget_del ht,true_and,hk]
  ·simp [h1]
theorem MtOk.put {s:Mt} (h:MtOk s) (k:Key) (n:ByteArray) (e:En):MtOk (putOf s k n e):=by
 refine ⟨h.ok,h.pos,aput_nodup h.nd _ _,fun k' t' hm=>?_,h.nf⟩
 have hnd:=aput_nodup h.nd k (aput ((aget s.tabs k).getD []) n e)
 have hg:aget (putOf s k n e).tabs k' = some t':=by
  show aget (aput s.tabs k _) k' = some t'
  have hm':(k',t')∈aput s.tabs k (aput ((aget s.tabs k).getD []) n e):=hm
  generalize aput s.tabs k (aput ((aget s.tabs k).getD []) n e) = l at *
  clear hm
  induction l with
  | nil=>cases hm'
  | cons e l ih =>
   simp only [List.map_cons,List.nodup_cons] at hnd
   unfold aget
   rcases List.mem_cons.1 hm' with rfl | hm'
   ·rw [if_pos rfl]
   ·rw [if_neg fun q=>hnd.1 (List.mem_map.2 ⟨_,hm',q.symm⟩)]
    exact ih hnd.2 hm'
 rw [show (putOf s k n e).tabs = aput s.tabs k (aput ((aget s.tabs k).getD []) n e) from rfl,aget_put] at hg
 split at hg
 ·cases hg
  refine aput_nodup ?_ _ _
  cases hk:aget s.tabs k with
  | none=>exact List.nodup_nil
  | some t=>exact h.ns k t (aget_mem hk)
 ·exact h.ns k' t' (aget_mem hg)
theorem aget_of_mem {κ α:Type} [DecidableEq κ] {l:List (κ×α)} (hn:(l.map (·.1)).Nodup) {k:κ} {v:α} (hm:(k,v)∈l):aget l k = some v:=by
 induction l with
 | nil=>cases hm
 | cons e l ih =>
  simp only [List.map_cons,List.nodup_cons] at hn
  unfold aget
  rcases List.mem_cons.1 hm with rfl | hm
  ·rw [if_pos rfl]
  ·rw [if_neg fun q=>hn.1 (List.mem_map.2 ⟨_,hm,q.symm⟩)]
   exact ih hn.2 hm
theorem MtOk.del {s:Mt} (h:MtOk s) (k:Key) (n:ByteArray):MtOk (delOf s k n):=by
 unfold delOf
 cases hk:aget s.tabs k with
 | none=>exact h
 | some t =>
  refine ⟨h.ok,h.pos,aput_nodup h.nd _ _,fun k' t' hm=>?_,h.nf⟩
  have hg:=aget_of_mem (aput_nodup h.nd k (adel t n)) hm
  rw [aget_put] at hg
  split at hg
  ·cases hg;exact adel_nodup (h.ns k t (aget_mem hk)) n
  ·exact h.ns k' t' (aget_mem hg)
theorem MtOk.len {s:Mt} (h:MtOk s):s.L.length≤1000:=h.ok.len
end Go.Proofs.YtbhigdljojlhnaaGreat

/- What is asked of tables first. -/
namespace Go.Proofs.YtbhigdljojlhnaaGreat
set_option linter.all false
open Go.Vc Go.Proofs
set_option linter.unusedSimpArgs false
set_option linter.unusedVariables false
set_option maxRecDepth 100000
set_option maxHeartbeats 4000000
attribute [local irreducible] CallW EqK
theorem none_ok (o:Bool) (s:Mt):Meets Tryz.prog 47 [dTs o s] (.cons (.ptr 0 [.d]) .nil) fun av X κ=>av = avBool false∧X = [dTs o s]∧κ = []:=by
 refine fb Tryz.func47 Tryz.ntmps47 [.tmp 2] fun w0 I0 F0 hF=>?_
 repeat first|refine n1 ?_|((first|refine rg 0 [0] [0] [] ?_|refine rg 1 [0] [2] [(2,5)] ?_);simp (maxSteps:=1000000) [hF,dTs,dL])
 (try refine nr ?_);(repeat first|refine nb_ ?_|refine nl_ ?_);refine endK.o [2] [0] [] ?_;simp [hF,retK,covers,mpre,dTs,dL]
theorem tis_ok (o:Bool) {s:Mt} (h:MtOk s) (t:Int):Meets Tryz.prog 73 [dTs o s] (.cons (.ptr 0 [.d]) (.cons (avInt t) .nil)) fun av X κ=>av = avBool (val s.L t)∧X = [dTs o s]∧κ = []:=by
 have hl:=h.len
 refine fb Tryz.func73 Tryz.ntmps73 [.tmp 4] fun w0 I0 F0 hF=>?_
 repeat first|refine n1 ?_|((first|refine rg 0 [0,1] [0,1] [] ?_|refine rg 1 [0,1] [4] [(3,8),(7,12)] ?_);simp (maxSteps:=1000000) [hF])
 by_cases h1:0≤t
 ·refine (none_ok o s).go [(0,[])] (by simp (maxSteps:=1000000) [hF,dTs,dL,h1]) ?_;rintro av X κ ⟨rfl,rfl,rfl⟩;simp (maxSteps:=1000000) [hF,dTs,dL,h1]
  refine (len_ok s.L hl).go [(0,[.d,.f 0])] (by simp (maxSteps:=1000000) [hF,dTs,dL]) ?_;rintro av X κ ⟨rfl,rfl,rfl⟩;simp (maxSteps:=1000000) [hF,dTs,dL]
  repeat first|refine n1 ?_
  have hv:decide (t < (s.L.length:Int)) = val s.L t:=by simp [val,h1]
  (try refine nr ?_);(repeat first|refine nb_ ?_|refine nl_ ?_);refine endK.o [4] [0] [] ?_;simp [hF,retK,covers,mpre,dTs,dL,hv]
 ·have hv:val s.L t = false:=by simp [val,h1]
  refine (none_ok o s).go [(0,[])] (by simp (maxSteps:=1000000) [hF,dTs,dL,h1]) ?_;rintro av X κ ⟨rfl,rfl,rfl⟩;simp (maxSteps:=1000000) [hF,dTs,dL,h1]
  repeat first|refine n1 ?_
  (try refine nr ?_);(repeat first|refine nb_ ?_|refine nl_ ?_);refine endK.o [4] [0] [] ?_;simp [hF,retK,covers,mpre,dTs,dL,hv]
theorem Kind_no {L:List Th} (hl:L.length≤1000) (t:Int) (hv:val L t = false):Meets Tryz.prog 25 [dL L] (.cons (.ptr 0 [.d]) (.cons (avInt t) .nil))
  fun av X κ=>av = avTwo (avInt 0) 1∧X = [dL L]∧κ = []:=by
 refine fb Tryz.func25 Tryz.ntmps25 [.tmp 4,.tmp 5] fun w0 I0 F0 hF=>?_
 repeat first|refine n1 ?_|((first|refine rg 0 [0,1] [0,1] [] ?_|refine rg 1 [0,1] [0,1,9] [] ?_);simp (maxSteps:=1000000) [hF])
 refine (is_ok L hl t).go [(0,[])] (by simp (maxSteps:=1000000) [hF,dL,hv]) ?_;rintro av X κ ⟨rfl,rfl,rfl⟩;simp (maxSteps:=1000000) [hF,dL,hv]
 repeat first|refine n1 ?_|((first|refine rg 2 [] [4,5] [] ?_|refine nc ?_);simp (maxSteps:=1000000) [hF])
 (try refine nr ?_);(repeat first|refine nb_ ?_|refine nl_ ?_);refine endK.o [4,5] [0] [] ?_;simp [hF,retK,covers,mpre,dL]
theorem mod_ok (o:Bool) {s:Mt} (h:MtOk s) (t:Int):Meets Tryz.prog 79 [dTs o s] (.cons (.ptr 0 [.d]) (.cons (avInt t) .nil)) fun av X κ=>av = avBool (modB s t)∧X = [dTs o s]∧κ = []:=by
 have hl:=h.len
 refine fb Tryz.func79 Tryz.ntmps79 [.tmp 4] fun w0 I0 F0 hF=>?_
 repeat first|refine n1 ?_|((first|refine rg 0 [0,1] [0,1] [] ?_|refine rg 1 [0,1] [5,6] [] ?_);simp (maxSteps:=1000000) [hF,dTs,dL])
 cases hv:val s.L t with
 | false =>
  refine (Kind_no hl t hv).go [(0,[.d,.f 0])] (by simp (maxSteps:=1000000) [hF,dTs,dL]) ?_;rintro av X κ ⟨rfl,rfl,rfl⟩;simp (maxSteps:=1000000) [hF,dTs,dL]
  repeat first|refine n1 ?_|((refine rg 2 [5,6] [4] [(2,18)] ?_);simp (maxSteps:=1000000) [hF])
  (try refine nr ?_);(repeat first|refine nb_ ?_|refine nl_ ?_);refine endK.o [4] [0] [] ?_;simp [hF,retK,covers,mpre,dTs,dL,modB,hv]
 | true =>
  obtain ⟨k,rfl,hk⟩:=val_nat hv
  have hth:=thAt_eq hk
  refine (Kind_yes hl k hk).go [(0,[.d,.f 0])] (by simp (maxSteps:=1000000) [hF,dTs,dL]) ?_;rintro av X κ ⟨rfl,rfl,rfl⟩;simp (maxSteps:=1000000) [hF,dTs,dL]
  repeat first|refine n1 ?_|((refine rg 2 [5,6] [4] [(2,18)] ?_);simp (maxSteps:=1000000) [hF])
  (try refine nr ?_);(repeat first|refine nb_ ?_|refine nl_ ?_);refine endK.o [4] [0] [] ?_;simp [hF,retK,covers,mpre,dTs,dL,modB,hv,hth]
theorem isName_ok (n:ByteArray):Meets Tryz.prog 76 [] (.cons (.val (.string n)) .nil) fun av X κ=>av = avBool (isNm n)∧X = []∧κ = []:=by
 refine fb Tryz.func76 Tryz.ntmps76 [.tmp 2] fun w0 I0 F0 hF=>?_
 by_cases h:n = ByteArray.empty
 ·subst h
  have he:(ByteArray.empty = ({ data:=#[] }:ByteArray)) = True:=eq_true rfl
  repeat first|refine n1 ?_|((first|refine rg 0 [0] [0] [] ?_|refine rg 1 [0] [2] [(2,5)] ?_);simp (maxSteps:=1000000) [hF,he])
  (try refine nr ?_);(repeat first|refine nb_ ?_|refine nl_ ?_);refine endK.o [2] [] [] ?_;simp [hF,retK,covers,mpre,isNm]
 ·have h':¬ n = { data:=#[] }:=h
  have hs:1≤n.size:=by
   rcases Nat.eq_zero_or_pos n.size with h0 | h0
   ·exfalso
    apply h
    obtain ⟨d⟩:=n
    have:d = #[]:=Array.eq_empty_of_size_eq_zero h0
    subst this;rfl
   ·exact h0
  repeat first|refine n1 ?_|((first|refine rg 0 [0] [0] [] ?_|refine rg 1 [0] [2] [(2,5)] ?_);simp (maxSteps:=1000000) [hF,h'])
  have hd:decide ((n.size:Int)≤40) = isNm n:=by
   have:((n.size:Int)≤40)↔n.size≤40:=by omega
   simp [isNm,hs,this]
  (try refine nr ?_);(repeat first|refine nb_ ?_|refine nl_ ?_);refine endK.o [2] [] [] ?_;simp [hF,retK,covers,mpre,hd]
theorem ask1_ok (n:ByteArray):Meets Tryz.prog 75 [] (.cons (.val (.string n)) .nil) fun av X κ=>av = avBool (!isNm n)∧X = []∧κ = []:=by
 refine fb Tryz.func75 Tryz.ntmps75 [.tmp 2] fun w0 I0 F0 hF=>?_
 repeat first|refine n1 ?_|((first|refine rg 0 [0] [0] [] ?_|refine rg 1 [0] [2] [] ?_);simp (maxSteps:=1000000) [hF])
 refine (isName_ok n).go [] (by simp (maxSteps:=1000000) [hF]) ?_;rintro av X κ ⟨rfl,rfl,rfl⟩;simp (maxSteps:=1000000) [hF]
 repeat first|refine n1 ?_
 (try refine nr ?_);(repeat first|refine nb_ ?_|refine nl_ ?_);refine endK.o [2] [] [] ?_;simp [hF,retK,covers,mpre]
def dNames (l:List ByteArray):D:=.sl true () 1 (strs l)
@[simp high] theorem head_dNames (l:List ByteArray):isHead (dNames l) = true:=by rw [dNames,isHead]
theorem indexFunc_s (ex:Bool) (ls:List ByteArray) (hl:ls.length≤100):Meets Tryz.prog 115 [dNames ls] (.cons (.sub 0 [] 0 ls.length ex) (.cons (.fn 75 .nil) .nil))
  fun av X κ=>av = avInt (ixF (fun n=>!isNm n) ls)∧X = [dNames ls]∧κ = []:=by
 refine fb Tryz.func115 Tryz.ntmps115 [.tmp 4] fun w0 I0 F0 hF=>?_
 repeat first|refine n1 ?_|refine n3 ?_|((first|refine rg 0 [0,1] [0,1] [] ?_|refine rg 1 [0,1] [0,1,7,8] [] ?_);simp (maxSteps:=1000000) [hF,dNames])
 refine VS.rounds (fun m st=>∃ (i:Nat),i + m = ls.length∧(∀ j,(h:j < ls.length)→j < i→(!isNm ls[j]) = false)∧st = ⟨[(0,.sub 0 [] 0 ls.length ex),(1,.fn 75 .nil),(7,avInt ls.length),(8,avInt i)],[dNames ls],[],[]⟩) ⟨ls.length,0,by omega,by omega,by simp [dNames]⟩ ?_
 rintro m st ⟨i,hi,hall,rfl⟩
 repeat first|refine n1 ?_|((first|refine rg 2 [0,1,7,8] [0,1,7,8,9] [] ?_|refine nc ?_);simp (maxSteps:=1000000) [hF,dNames])
 refine ⟨fun hlt=>?_,fun hge=>?_⟩
 ·have hi':i < ls.length:=by omega
  have hn:=strs_nth hi'
  repeat first|refine n1 ?_|refine n2 ?_|refine n3 ?_|((first|refine rg 3 [0,1,7,8] [0,1,5,7,8] [] ?_|refine rg 4 [0,1,5,7,8] [0,1,5,7,8,16] [] ?_);simp (maxSteps:=1000000) [hF,dNames,hn,hi'])
  refine (ask1_ok ls[i]).go [] (by simp (maxSteps:=1000000) [hF,dNames]) ?_;rintro av X κ ⟨rfl,rfl,rfl⟩;simp (maxSteps:=1000000) [hF,dNames]
  cases hp:isNm ls[i] with
  | false =>
   have hr:ixF (fun n=>!isNm n) ls = i:=ixF_hit hi' (fun j h=>hall j (by omega) h) (by simp [hp])
   repeat first|refine n1 ?_|((first|refine rg 5 [5] [4] [] ?_|refine nc ?_);simp (maxSteps:=1000000) [hF,hp])
   (try refine nr ?_);(repeat first|refine nb_ ?_|refine nl_ ?_);refine endK.o [4] [0] [] ?_;simp [hF,retK,covers,mpre,hr,dNames]
  | true =>
   repeat first|refine n2 ?_|refine n4 ?_|refine n5 ?_|refine n6 ?_|((first|refine rg 6 [0,1,7,8] [0,1,7,8] [] ?_|refine nc ?_);simp (maxSteps:=1000000) [hF,hp])
   refine nextK.of [0,1,7,8] [0] (m - 1) (by omega) (by simp [hF]) ?_
   refine ⟨i + 1,by omega,?_,?_⟩
   ·intro j hj hji
    rcases Nat.lt_or_ge j i with h' | h'
    ·exact hall j hj h'
    ·obtain rfl:j = i:=by omega
     simp [hp]
   ·simp [dNames]
    exact IntWalk.i64_in _ (by omega)
 ·have hr:ixF (fun n=>!isNm n) ls = -1:=ixF_miss (fun j h=>hall j h (by omega))
  repeat first|refine n1 ?_|refine n7 ?_|((refine rg 7 [] [4] [] ?_);simp (maxSteps:=1000000) [hF])
  (try refine nr ?_);(repeat first|refine nb_ ?_|refine nl_ ?_);refine endK.o [4] [0] [] ?_;simp [hF,retK,covers,mpre,hr,dNames]
theorem containsFunc_s (ex:Bool) (ls:List ByteArray) (hl:ls.length≤100):Meets Tryz.prog 74 [dNames ls] (.cons (.sub 0 [] 0 ls.length ex) (.cons (.fn 75 .nil) .nil))
  fun av X κ=>av = avBool (!ls.all isNm)∧X = [dNames ls]∧κ = []:=by
 refine fb Tryz.func74 Tryz.ntmps74 [.tmp 4] fun w0 I0 F0 hF=>?_
 repeat first|refine n1 ?_|((first|refine rg 0 [0,1] [0,1] [] ?_|refine rg 1 [0,1] [4] [] ?_);simp (maxSteps:=1000000) [hF])
 refine (indexFunc_s ex ls hl).go [(0,[])] (by simp (maxSteps:=1000000) [hF,dNames]) ?_;rintro av X κ ⟨rfl,rfl,rfl⟩;simp (maxSteps:=1000000) [hF,dNames]
 repeat first|refine n1 ?_
 have h:decide ((0:Int)≤ixF (fun n=>!isNm n) ls) = !ls.all isNm:=by
  simp only [ixF_ge,Bool.decide_eq_true]
  clear hl hF
  induction ls with
  | nil=>rfl
  | cons a l ih=>simp only [List.any_cons,List.all_cons,ih,Bool.not_and]
 (try refine nr ?_);(repeat first|refine nb_ ?_|refine nl_ ?_);refine endK.o [4] [0] [] ?_;simp [hF,retK,covers,mpre,h,dNames]
theorem asked_ok (o:Bool) {s:Mt} (h:MtOk s) (t:Int) (fine:Bool) (ns:List ByteArray) (ex:Bool) (hn:ns.length≤100):Meets Tryz.prog 31 [dTs o s,dNames ns] (.cons (.ptr 0 [.d]) (.cons (avInt t) (.cons (avBool fine) (.cons (.sub 1 [] 0 ns.length ex) .nil))))
  fun av X κ=>av = avInt (askE s t fine ns)∧X = [dTs o s,dNames ns]∧κ = []:=by
 refine fb Tryz.func31 Tryz.ntmps31 [.tmp 8] fun w0 I0 F0 hF=>?_
 repeat first|refine n1 ?_|refine n3 ?_|((first|refine rg 0 [0,1,2,3] [0,1,2,3] [] ?_|refine rg 1 [0,1,2,3] [3,9] [(4,14)] ?_);simp (maxSteps:=1000000) [hF])
 cases hv:val s.L t with
 | false =>
  have he:askE s t fine ns = 1:=by simp [askE,hv]
  refine (tis_ok o h t).go [(0,[])] (by simp (maxSteps:=1000000) [hF,dTs,dNames,hv]) ?_;rintro av X κ ⟨rfl,rfl,rfl⟩;simp (maxSteps:=1000000) [hF,dTs,dNames,hv]
  repeat first|refine n1 ?_|((first|refine rg 2 [] [8] [] ?_|refine nc ?_);simp (maxSteps:=1000000) [hF])
  (try refine nr ?_);(repeat first|refine nb_ ?_|refine nl_ ?_);refine endK.o [8] [0,1] [] ?_;simp [hF,retK,covers,mpre,he,dTs,dNames]
 | true =>
  cases fine with
  | false =>
   have he:askE s t false ns = 1:=by simp [askE]
   refine (tis_ok o h t).go [(0,[])] (by simp (maxSteps:=1000000) [hF,dTs,dNames,hv]) ?_;rintro av X κ ⟨rfl,rfl,rfl⟩;simp (maxSteps:=1000000) [hF,dTs,dNames,hv]
   repeat first|refine n1 ?_|((first|refine rg 2 [] [8] [] ?_|refine nc ?_);simp (maxSteps:=1000000) [hF])
   (try refine nr ?_);(repeat first|refine nb_ ?_|refine nl_ ?_);refine endK.o [8] [0,1] [] ?_;simp [hF,retK,covers,mpre,he,dTs,dNames]
  | true =>
   refine (tis_ok o h t).go [(0,[])] (by simp (maxSteps:=1000000) [hF,dTs,dNames,hv]) ?_;rintro av X κ ⟨rfl,rfl,rfl⟩;simp (maxSteps:=1000000) [hF,dTs,dNames,hv]
   repeat first|refine n1 ?_|((first|refine rg 3 [3] [18] [] ?_|refine nc ?_);simp (maxSteps:=1000000) [hF])
   cases hb:ns.all isNm with
   | false =>
    have he:askE s t true ns = 6:=by simp only [askE,hv,hb];rfl
    refine (containsFunc_s ex ns hn).go [(1,[])] (by simp (maxSteps:=1000000) [hF,dNames,hb]) ?_;rintro av X κ ⟨rfl,rfl,rfl⟩;simp (maxSteps:=1000000) [hF,dNames,hb]
    repeat first|refine n1 ?_|((first|refine rg 4 [] [8] [] ?_|refine nc ?_);simp (maxSteps:=1000000) [hF])
    (try refine nr ?_);(repeat first|refine nb_ ?_|refine nl_ ?_);refine endK.o [8] [0,1] [] ?_;simp [hF,retK,covers,mpre,he,dTs,dNames]
   | true =>
    have he:askE s t true ns = 0:=by simp only [askE,hv,hb];rfl
    refine (containsFunc_s ex ns hn).go [(1,[])] (by simp (maxSteps:=1000000) [hF,dNames,hb]) ?_;rintro av X κ ⟨rfl,rfl,rfl⟩;simp (maxSteps:=1000000) [hF,dNames,hb]
    repeat first|refine n1 ?_|refine n2 ?_|refine n4 ?_|((first|refine rg 5 [] [8] [] ?_|refine nc ?_);simp (maxSteps:=1000000) [hF])
    (try refine nr ?_);(repeat first|refine nb_ ?_|refine nl_ ?_);refine endK.o [8] [0,1] [] ?_;simp [hF,retK,covers,mpre,he,dTs,dNames]
theorem changes_ok (o:Bool) {s:Mt} (h:MtOk s) (t:Int) (fine:Bool) (ns:List ByteArray) (ex:Bool) (hn:ns.length≤100):Meets Tryz.prog 29 [dTs o s,dNames ns] (.cons (.ptr 0 [.d]) (.cons (avInt t) (.cons (avBool fine) (.cons (.sub 1 [] 0 ns.length ex) .nil))))
  fun av X κ=>av = avInt (chgE s t fine ns)∧X = [dTs o s,dNames ns]∧κ = []:=by
 have hf:=dFz_find s.fz t
 refine fb Tryz.func29 Tryz.ntmps29 [.tmp 8] fun w0 I0 F0 hF=>?_
 repeat first|refine n1 ?_|((first|refine rg 0 [0,1,2,3] [0,1,2,3] [] ?_|refine rg 1 [0,1,2,3] [0,1,9] [] ?_);simp (maxSteps:=1000000) [hF])
 refine (asked_ok o h t fine ns ex hn).go [(0,[]),(1,[])] (by simp (maxSteps:=1000000) [hF,dTs,dNames]) ?_;rintro av X κ ⟨rfl,rfl,rfl⟩;simp (maxSteps:=1000000) [hF,dTs,dNames]
 by_cases h0:askE s t fine ns = 0
 ·cases hg:aget s.fz t with
  | none =>
   rw [hg] at hf
   simp only [Option.map_none] at hf
   have he:chgE s t fine ns = 0:=by simp [chgE,h0,frz,hg]
   repeat first|refine n1 ?_|refine n2 ?_|((first|refine rg 2 [0,1,9] [9,24] [(2,17)] ?_|refine rg 4 [9] [8] [] ?_|refine nc ?_);simp (maxSteps:=1000000) [hF,dTs,dNames,h0,hf])
   (try refine nr ?_);(repeat first|refine nb_ ?_|refine nl_ ?_);refine endK.o [8] [0,1] [] ?_;simp [hF,retK,covers,mpre,dTs,he,dNames]
  | some b =>
   rw [hg] at hf
   simp only [Option.map_some] at hf
   cases b with
   | true =>
    have he:chgE s t fine ns = 13:=by simp [chgE,h0,frz,hg]
    repeat first|refine n1 ?_|((first|refine rg 2 [0,1,9] [9,24] [(2,17)] ?_|refine rg 3 [] [8] [] ?_|refine nc ?_);simp (maxSteps:=1000000) [hF,dTs,dNames,h0,hf])
    (try refine nr ?_);(repeat first|refine nb_ ?_|refine nl_ ?_);refine endK.o [8] [0,1] [] ?_;simp [hF,retK,covers,mpre,dTs,he,dNames]
   | false =>
    have he:chgE s t fine ns = 0:=by simp [chgE,h0,frz,hg]
    repeat first|refine n1 ?_|refine n2 ?_|((first|refine rg 2 [0,1,9] [9,24] [(2,17)] ?_|refine rg 4 [9] [8] [] ?_|refine nc ?_);simp (maxSteps:=1000000) [hF,dTs,dNames,h0,hf])
    (try refine nr ?_);(repeat first|refine nb_ ?_|refine nl_ ?_);refine endK.o [8] [0,1] [] ?_;simp [hF,retK,covers,mpre,dTs,he,dNames]
 ·have he:chgE s t fine ns = askE s t fine ns:=by simp [chgE,h0]
  repeat first|refine n1 ?_|refine n2 ?_|((first|refine rg 2 [0,1,9] [9,24] [(2,17)] ?_|refine rg 4 [9] [8] [] ?_|refine nc ?_);simp (maxSteps:=1000000) [hF,dTs,dNames,h0])
  (try refine nr ?_);(repeat first|refine nb_ ?_|refine nl_ ?_);refine endK.o [8] [0,1] [] ?_;simp [hF,retK,covers,mpre,dTs,he,dNames]
abbrev avEnt (e:En):AV:=.agg (.cons (avInt e.body) (.cons (avInt e.vis) (.cons (avInt e.home) (.cons (.val (.string e.known)) .nil))))
abbrev avKey (a b:Int):AV:=.agg (.cons (avInt a) (.cons (avInt b) .nil))
theorem putT {s:Mt} {a b:Int} {n:ByteArray} {e:En} {t:Tb} (l:List (Key×Tb)) (h:aget l (a,b) = some t) (hl:aput l (a,b) (aput t n e) = (putOf s (a,b) n e).tabs):l.set (aidx l (a,b)) ((a,b),aput t n e) = (putOf s (a,b) n e).tabs:=by
 rw [←hl,aput_at h]
theorem put_ok (s:Mt) (a b:Int) (n:ByteArray) (e:En):Meets Tryz.prog 30 [dTs true s] (.cons (.ptr 0 [.d]) (.cons (avKey a b) (.cons (.val (.string n)) (.cons (avEnt e) .nil))))
  fun av X κ=>av = .tup .nil∧X = [dTs true (putOf s (a,b) n e)]∧κ = [(0,[.d])]:=by
 have hfind:=dRows_find true s.tabs a b
 refine fbS Tryz.func30 Tryz.ntmps30 [] fun w0 I0 F0 hF=>?_
 cases hg:aget s.tabs (a,b) with
 | none =>
  rw [hg] at hfind
  simp only [Option.map_none] at hfind
  have hput:mput (.agg #[.int .i64 a,.int .i64 b]) (.map true () .nil) (dRows true s.tabs) = dRows true (aput s.tabs (a,b) []):=dRows_put true s.tabs a b []
  have hg2:aget (aput s.tabs (a,b) []) (a,b) = some []:=by rw [aget_put,if_pos rfl]
  have hpe:aput (aput s.tabs (a,b) []) (a,b) (aput [] n e) = (putOf s (a,b) n e).tabs:=by
   show _ = aput s.tabs (a,b) (aput ((aget s.tabs (a,b)).getD []) n e)
   rw [hg]
   exact aput_put _ _ _ _
  have hset:=putT (s:=s) (n:=n) (e:=e) _ hg2 hpe
  have hlt:=aidx_lt hg2
  have hnth:=dRows_nth true hlt
  have hi:=hlt.1
  obtain ⟨hX,hX2⟩:=dRowsX_find (o:=true) hg2 (.junk ())
  have hnp:=dNs_put [] n e
  have hmap:=dRowsX_map true (aput s.tabs (a,b) []) (aidx (aput s.tabs (a,b) []) (a,b)) (a,b) (aput [] n e)
  rw [hset] at hmap
  have hxn:=dRowsX_nth (o:=true) hi (a,b) (.junk ())
  simp only [dEnt,dNs_nil] at hnp
  simp only [dNs_nil] at hnth
  generalize aput s.tabs (a,b) [] = l at *
  repeat first|refine n1 ?_|((first|refine rg 0 [0,1,2,3] [0,2,5,7] [] ?_|(refine dr 1 0 [0,2,5,7] [0,2,5,7,14] [] [⟨0,1,256,5⟩,⟨1,256,512,5⟩,⟨2,512,1024,5⟩,⟨4,1024,2048,6⟩,⟨0,32,4096,6⟩,⟨24,6144,8192,4⟩,⟨32,8192,16384,5⟩] (.take 0 (.take 1 (.take 2 (.take 3 (.take 4 (.fork (.alt 5 (.take 6 (.done)) (.nil)))))))) (.run [0,1,2,3,4,5,6] (.done)) ?_;simp only [drs])|refine nc ?_);simp (maxSteps:=1000000) [hF,dTs,hfind])
  refine ghostL 0 [.d,.f 1] ?_;simp (maxSteps:=1000000) [hF,St.lift,AV.lift,liftPl,stripP,nodeAV,isNode,dTs]
  repeat first|(((refine dr 2 0 [0,2,5,7] [0,2,5,7] [] [⟨0,1,32768,5⟩,⟨1,32768,65536,5⟩,⟨2,65536,131072,5⟩,⟨4,131072,262144,6⟩,⟨0,32,524288,6⟩,⟨0,0,1048576,4⟩,⟨63,1835008,0,0⟩] (.take 0 (.take 1 (.take 2 (.take 3 (.take 4 (.fork (.alt 5 (.fork (.alt 6 (.done) (.nil))) (.nil)))))))) (.run [0,1,2,3,4,5,6] (.done)) ?_;simp only [drs]));simp (maxSteps:=1000000) [hF,hput])
  refine ghostL 3 [.i (aidx l (a,b)),.f 1] ?_;simp (maxSteps:=1000000) [hF,St.lift,AV.lift,liftPl,stripP,nodeAV,isNode,hnth,hi]
  repeat first|refine n4 ?_|(((refine dr 3 0 [0,2,5,7] [] [] [⟨0,1,2097152,5⟩,⟨1,2097152,4194304,5⟩,⟨2,4194304,8388608,5⟩,⟨4,8388608,16777216,6⟩,⟨0,32,33554432,6⟩,⟨24,50331648,67108864,4⟩,⟨0,4,134217728,5⟩,⟨0,128,268435456,6⟩,⟨255,469762048,0,0⟩] (.take 0 (.take 1 (.take 2 (.take 3 (.take 4 (.take 6 (.take 7 (.fork (.alt 5 (.fork (.alt 8 (.done) (.nil))) (.nil)))))))))) (.run [0,1,2,3,4,6,7,5,8] (.done)) ?_;simp only [drs]));simp (maxSteps:=1000000) [hF,dRowsX_eq,hX,hX2,hnp])
  (try refine nr ?_);(repeat first|refine nb_ ?_|refine nl_ ?_);refine endS.settle 3 [.i (aidx l (a,b)),.f 1] (.mp 5 []) (by simp) (by simp) (by simp [hF,Tk.tree,hi,dRowsX_set,hmap,hxn]) (by simp [hF,Tk.tree,hi,dRowsX_set,hmap,hxn]) ?_;simp [hF,St.settle,Tk.tree,hi,dRowsX_set,hmap,hxn]
  (try refine nr ?_);(repeat first|refine nb_ ?_|refine nl_ ?_);refine endS.settle 0 [.d,.f 1] (.mp 3 []) (by simp) (by simp) (by simp [hF,Tk.tree]) (by simp [hF,Tk.tree]) ?_;simp [hF,St.settle,Tk.tree]
  (try refine nr ?_);(repeat first|refine nb_ ?_|refine nl_ ?_);refine endS.of ?_;refine endK.o [] [0] [(0,[.d])] ?_;simp [hF,retK,covers,mpre,dTs]
 | some t =>
  rw [hg] at hfind
  simp only [Option.map_some] at hfind
  have hpe:aput s.tabs (a,b) (aput t n e) = (putOf s (a,b) n e).tabs:=by
   show _ = aput s.tabs (a,b) (aput ((aget s.tabs (a,b)).getD []) n e)
   rw [hg];rfl
  have hset:=putT (s:=s) (n:=n) (e:=e) _ hg hpe
  have hlt:=aidx_lt hg
  have hnth:=dRows_nth true hlt
  have hi:=hlt.1
  obtain ⟨hX,hX2⟩:=dRowsX_find (o:=true) hg (.junk ())
  have hnp:=dNs_put t n e
  simp only [dEnt] at hnp
  have hmap:=dRowsX_map true s.tabs (aidx s.tabs (a,b)) (a,b) (aput t n e)
  rw [hset] at hmap
  have hxn:=dRowsX_nth (o:=true) hi (a,b) (.junk ())
  repeat first|refine n1 ?_|refine n2 ?_|((first|refine rg 0 [0,1,2,3] [0,2,5,7] [] ?_|(refine dr 1 0 [0,2,5,7] [0,2,5,7,14] [] [⟨0,1,256,5⟩,⟨1,256,512,5⟩,⟨2,512,1024,5⟩,⟨4,1024,2048,6⟩,⟨0,32,4096,6⟩,⟨24,6144,8192,4⟩,⟨32,8192,16384,5⟩] (.take 0 (.take 1 (.take 2 (.take 3 (.take 4 (.fork (.alt 5 (.take 6 (.done)) (.nil)))))))) (.run [0,1,2,3,4,5,6] (.done)) ?_;simp only [drs])|refine nc ?_);simp (maxSteps:=1000000) [hF,dTs,hfind])
  refine ghostL 0 [.d,.f 1] ?_;simp (maxSteps:=1000000) [hF,St.lift,AV.lift,liftPl,stripP,nodeAV,isNode,dTs]
  refine ghostL 3 [.i (aidx s.tabs (a,b)),.f 1] ?_;simp (maxSteps:=1000000) [hF,St.lift,AV.lift,liftPl,stripP,nodeAV,isNode,hnth,hi]
  repeat first|refine n4 ?_|(((refine dr 3 0 [0,2,5,7] [] [] [⟨0,1,2097152,5⟩,⟨1,2097152,4194304,5⟩,⟨2,4194304,8388608,5⟩,⟨4,8388608,16777216,6⟩,⟨0,32,33554432,6⟩,⟨24,50331648,67108864,4⟩,⟨0,4,134217728,5⟩,⟨0,128,268435456,6⟩,⟨255,469762048,0,0⟩] (.take 0 (.take 1 (.take 2 (.take 3 (.take 4 (.take 6 (.take 7 (.fork (.alt 5 (.fork (.alt 8 (.done) (.nil))) (.nil)))))))))) (.run [0,1,2,3,4,6,7,5,8] (.done)) ?_;simp only [drs]));simp (maxSteps:=1000000) [hF,dRowsX_eq,hX,hX2,hnp])
  (try refine nr ?_);(repeat first|refine nb_ ?_|refine nl_ ?_);refine endS.settle 3 [.i (aidx s.tabs (a,b)),.f 1] (.mp 4 []) (by simp) (by simp) (by simp [hF,Tk.tree,hi,dRowsX_set,hmap,hxn]) (by simp [hF,Tk.tree,hi,dRowsX_set,hmap,hxn]) ?_;simp [hF,St.settle,Tk.tree,hi,dRowsX_set,hmap,hxn]
  (try refine nr ?_);(repeat first|refine nb_ ?_|refine nl_ ?_);refine endS.settle 0 [.d,.f 1] (.mp 3 []) (by simp) (by simp) (by simp [hF,Tk.tree]) (by simp [hF,Tk.tree]) ?_;simp [hF,St.settle,Tk.tree]
  (try refine nr ?_);(repeat first|refine nb_ ?_|refine nl_ ?_);refine endS.of ?_;refine endK.o [] [0] [(0,[.d])] ?_;simp [hF,retK,covers,mpre,dTs]
theorem Define_ok {s:Mt} (h:MtOk s) (t:Int) (n:ByteArray) (b v:Int):Meets Tryz.prog 11 [dTs true s] (.cons (.ptr 0 [.d]) (.cons (avInt t) (.cons (.val (.string n)) (.cons (avInt b) (.cons (avInt v) .nil)))))
  fun av X κ=>av = avInt (defineOf s t n b v).2∧X = [dTs true (defineOf s t n b v).1]∧κ = [(0,[.d])]:=by
 refine fb Tryz.func11 Tryz.ntmps11 [.tmp 10] fun w0 I0 F0 hF=>?_
 obtain ⟨fine,hfine⟩:∃ f,f = (bodyB b && visB v):=⟨_,rfl⟩
 have hch:=changes_ok true h t fine [n] true (by simp)
 have hd:defineOf s t n b v = if chgE s t fine [n] = 0 then (putOf s (t,-1) n ⟨b,v,t,n⟩,0) else (s,chgE s t fine [n]):=by rw [hfine];rfl
 rw [hd]
 by_cases h1:0≤b
 ·by_cases h2:b≤1000000
  ·by_cases h3:0≤v
   ·have hv:decide (v≤2) = fine:=by simp [hfine,bodyB,visB,h1,h2,h3]
    repeat first|refine n1 ?_|((first|refine rg 0 [0,1,2,3,4] [0,1,2,3,4] [] ?_|refine rg 1 [0,1,2,3,4] [0,1,2,3,4,11] [(4,16),(8,20),(12,24)] ?_);simp (maxSteps:=1000000) [hF,h1,h2,h3,hv])
    clear hd hfine hv
    refine (hch).go [(0,[]),(1,[])] (by simp (maxSteps:=1000000) [hF,dTs,dNames,strs_one]) ?_;rintro av X κ ⟨rfl,rfl,rfl⟩;simp (maxSteps:=1000000) [hF,dTs,dNames,strs_one]
    by_cases h0:chgE s t fine [n] = 0
    ·repeat first|refine n1 ?_|((first|refine rg 2 [0,1,2,3,4,11] [0,1,2,3,4,11,32] [] ?_|refine rg 3 [0,1,2,3,4,11] [11] [] ?_|refine nc ?_);simp (maxSteps:=1000000) [hF,h0])
     refine (put_ok s t (-1) n ⟨b,v,t,n⟩).go [(0,[])] (by simp (maxSteps:=1000000) [hF,dTs]) ?_;rintro av X κ ⟨rfl,rfl,rfl⟩;simp (maxSteps:=1000000) [hF,dTs]
     repeat first|refine n1 ?_|((refine rg 4 [11] [10] [] ?_);simp (maxSteps:=1000000) [hF])
     (try refine nr ?_);(repeat first|refine nb_ ?_|refine nl_ ?_);refine endK.o [10] [0] [(0,[.d])] ?_;simp [hF,retK,covers,mpre,dTs,h0]
    ·repeat first|refine n1 ?_|refine n2 ?_|((first|refine rg 2 [0,1,2,3,4,11] [0,1,2,3,4,11,32] [] ?_|refine rg 4 [11] [10] [] ?_|refine nc ?_);simp (maxSteps:=1000000) [hF,h0])
     (try refine nr ?_);(repeat first|refine nb_ ?_|refine nl_ ?_);refine endK.o [10] [0] [(0,[.d])] ?_;simp [hF,retK,covers,mpre,dTs,h0]
   ·have hv:fine = false:=by simp [hfine,bodyB,visB,h3]
    subst hv
    have h0:¬ chgE s t false [n] = 0:=by simp [chgE,askE]
    repeat first|refine n1 ?_|((first|refine rg 0 [0,1,2,3,4] [0,1,2,3,4] [] ?_|refine rg 1 [0,1,2,3,4] [0,1,2,3,4,11] [(4,16),(8,20),(12,24)] ?_);simp (maxSteps:=1000000) [hF,h1,h2,h3])
    refine (hch).go [(0,[]),(1,[])] (by simp (maxSteps:=1000000) [hF,dTs,dNames,strs_one]) ?_;rintro av X κ ⟨rfl,rfl,rfl⟩;simp (maxSteps:=1000000) [hF,dTs,dNames,strs_one]
    repeat first|refine n1 ?_|refine n2 ?_|((first|refine rg 2 [0,1,2,3,4,11] [0,1,2,3,4,11,32] [] ?_|refine rg 4 [11] [10] [] ?_|refine nc ?_);simp (maxSteps:=1000000) [hF,h0])
    (try refine nr ?_);(repeat first|refine nb_ ?_|refine nl_ ?_);refine endK.o [10] [0] [(0,[.d])] ?_;simp [hF,retK,covers,mpre,dTs,h0]
  ·have hv:fine = false:=by simp [hfine,bodyB,visB,h2]
   subst hv
   have h0:¬ chgE s t false [n] = 0:=by simp [chgE,askE]
   repeat first|refine n1 ?_|((first|refine rg 0 [0,1,2,3,4] [0,1,2,3,4] [] ?_|refine rg 1 [0,1,2,3,4] [0,1,2,3,4,11] [(4,16),(8,20),(12,24)] ?_);simp (maxSteps:=1000000) [hF,h1,h2])
   refine (hch).go [(0,[]),(1,[])] (by simp (maxSteps:=1000000) [hF,dTs,dNames,strs_one]) ?_;rintro av X κ ⟨rfl,rfl,rfl⟩;simp (maxSteps:=1000000) [hF,dTs,dNames,strs_one]
   repeat first|refine n1 ?_|refine n2 ?_|((first|refine rg 2 [0,1,2,3,4,11] [0,1,2,3,4,11,32] [] ?_|refine rg 4 [11] [10] [] ?_|refine nc ?_);simp (maxSteps:=1000000) [hF,h0])
   (try refine nr ?_);(repeat first|refine nb_ ?_|refine nl_ ?_);refine endK.o [10] [0] [(0,[.d])] ?_;simp [hF,retK,covers,mpre,dTs,h0]
 ·have hv:fine = false:=by simp [hfine,bodyB,visB,h1]
  subst hv
  have h0:¬ chgE s t false [n] = 0:=by simp [chgE,askE]
  repeat first|refine n1 ?_|((first|refine rg 0 [0,1,2,3,4] [0,1,2,3,4] [] ?_|refine rg 1 [0,1,2,3,4] [0,1,2,3,4,11] [(4,16),(8,20),(12,24)] ?_);simp (maxSteps:=1000000) [hF,h1])
  refine (hch).go [(0,[]),(1,[])] (by simp (maxSteps:=1000000) [hF,dTs,dNames,strs_one]) ?_;rintro av X κ ⟨rfl,rfl,rfl⟩;simp (maxSteps:=1000000) [hF,dTs,dNames,strs_one]
  repeat first|refine n1 ?_|refine n2 ?_|((first|refine rg 2 [0,1,2,3,4,11] [0,1,2,3,4,11,32] [] ?_|refine rg 4 [11] [10] [] ?_|refine nc ?_);simp (maxSteps:=1000000) [hF,h0])
  (try refine nr ?_);(repeat first|refine nb_ ?_|refine nl_ ?_);refine endK.o [10] [0] [(0,[.d])] ?_;simp [hF,retK,covers,mpre,dTs,h0]
theorem Refine_ok {s:Mt} (h:MtOk s) (m t:Int) (n:ByteArray) (b:Int):Meets Tryz.prog 46 [dTs true s] (.cons (.ptr 0 [.d]) (.cons (avInt m) (.cons (avInt t) (.cons (.val (.string n)) (.cons (avInt b) .nil)))))
  fun av X κ=>av = avInt (refineOf s m t n b).2∧X = [dTs true (refineOf s m t n b).1]∧κ = [(0,[.d])]:=by
 refine fb Tryz.func46 Tryz.ntmps46 [.tmp 10] fun w0 I0 F0 hF=>?_
 obtain ⟨fine,hfine⟩:∃ f,f = (modB s m && bodyB b):=⟨_,rfl⟩
 have hch:=asked_ok true h t fine [n] true (by simp)
 have hd:refineOf s m t n b = if askE s t fine [n] = 0 then (putOf s (t,m) n ⟨b,0,t,n⟩,0) else (s,askE s t fine [n]):=by rw [hfine];rfl
 rw [hd]
 repeat first|refine n1 ?_|((first|refine rg 0 [0,1,2,3,4] [0,1,2,3,4] [] ?_|refine rg 1 [0,1,2,3,4] [0,1,2,3,4,11] [(5,17),(10,22),(14,26)] ?_);simp (maxSteps:=1000000) [hF])
 refine (none_ok true s).go [(0,[])] (by simp (maxSteps:=1000000) [hF,dTs]) ?_;rintro av X κ ⟨rfl,rfl,rfl⟩;simp (maxSteps:=1000000) [hF,dTs]
 cases hm:modB s m with
 | false =>
  have hv:fine = false:=by simp [hfine,hm]
  subst hv
  have h0:¬ askE s t false [n] = 0:=by simp [askE]
  refine (mod_ok true h m).go [(0,[])] (by simp (maxSteps:=1000000) [hF,dTs,hm]) ?_;rintro av X κ ⟨rfl,rfl,rfl⟩;simp (maxSteps:=1000000) [hF,dTs,hm]
  refine (hch).go [(0,[]),(1,[])] (by simp (maxSteps:=1000000) [hF,dTs,dNames,strs_one]) ?_;rintro av X κ ⟨rfl,rfl,rfl⟩;simp (maxSteps:=1000000) [hF,dTs,dNames,strs_one]
  repeat first|refine n1 ?_|refine n2 ?_|((first|refine rg 2 [0,1,2,3,4,11] [0,1,2,3,4,11,34] [] ?_|refine rg 4 [11] [10] [] ?_|refine nc ?_);simp (maxSteps:=1000000) [hF,h0])
  (try refine nr ?_);(repeat first|refine nb_ ?_|refine nl_ ?_);refine endK.o [10] [0] [(0,[.d])] ?_;simp [hF,retK,covers,mpre,dTs,h0]
 | true =>
  by_cases h1:0≤b
  ·have hv:decide (b≤1000000) = fine:=by simp [hfine,hm,bodyB,h1]
   refine (mod_ok true h m).go [(0,[])] (by simp (maxSteps:=1000000) [hF,dTs,hm,h1,hv]) ?_;rintro av X κ ⟨rfl,rfl,rfl⟩;simp (maxSteps:=1000000) [hF,dTs,hm,h1,hv]
   clear hd hfine hv
   refine (hch).go [(0,[]),(1,[])] (by simp (maxSteps:=1000000) [hF,dTs,dNames,strs_one]) ?_;rintro av X κ ⟨rfl,rfl,rfl⟩;simp (maxSteps:=1000000) [hF,dTs,dNames,strs_one]
   by_cases h0:askE s t fine [n] = 0
   ·repeat first|refine n1 ?_|((first|refine rg 2 [0,1,2,3,4,11] [0,1,2,3,4,11,34] [] ?_|refine rg 3 [0,1,2,3,4,11] [11] [] ?_|refine nc ?_);simp (maxSteps:=1000000) [hF,h0])
    refine (put_ok s t m n ⟨b,0,t,n⟩).go [(0,[])] (by simp (maxSteps:=1000000) [hF,dTs]) ?_;rintro av X κ ⟨rfl,rfl,rfl⟩;simp (maxSteps:=1000000) [hF,dTs]
    repeat first|refine n1 ?_|((refine rg 4 [11] [10] [] ?_);simp (maxSteps:=1000000) [hF])
    (try refine nr ?_);(repeat first|refine nb_ ?_|refine nl_ ?_);refine endK.o [10] [0] [(0,[.d])] ?_;simp [hF,retK,covers,mpre,dTs,h0]
   ·repeat first|refine n1 ?_|refine n2 ?_|((first|refine rg 2 [0,1,2,3,4,11] [0,1,2,3,4,11,34] [] ?_|refine rg 4 [11] [10] [] ?_|refine nc ?_);simp (maxSteps:=1000000) [hF,h0])
    (try refine nr ?_);(repeat first|refine nb_ ?_|refine nl_ ?_);refine endK.o [10] [0] [(0,[.d])] ?_;simp [hF,retK,covers,mpre,dTs,h0]
  ·have hv:fine = false:=by simp [hfine,bodyB,h1]
   subst hv
   have h0:¬ askE s t false [n] = 0:=by simp [askE]
   refine (mod_ok true h m).go [(0,[])] (by simp (maxSteps:=1000000) [hF,dTs,hm,h1]) ?_;rintro av X κ ⟨rfl,rfl,rfl⟩;simp (maxSteps:=1000000) [hF,dTs,hm,h1]
   refine (hch).go [(0,[]),(1,[])] (by simp (maxSteps:=1000000) [hF,dTs,dNames,strs_one]) ?_;rintro av X κ ⟨rfl,rfl,rfl⟩;simp (maxSteps:=1000000) [hF,dTs,dNames,strs_one]
   repeat first|refine n1 ?_|refine n2 ?_|((first|refine rg 2 [0,1,2,3,4,11] [0,1,2,3,4,11,34] [] ?_|refine rg 4 [11] [10] [] ?_|refine nc ?_);simp (maxSteps:=1000000) [hF,h0])
   (try refine nr ?_);(repeat first|refine nb_ ?_|refine nl_ ?_);refine endK.o [10] [0] [(0,[.d])] ?_;simp [hF,retK,covers,mpre,dTs,h0]
theorem Freeze_ok {s:Mt} (h:MtOk s) (t:Int):Meets Tryz.prog 58 [dTs true s] (.cons (.ptr 0 [.d]) (.cons (avInt t) .nil))
  fun av X κ=>av = avInt (freezeOf s t).2∧X = [dTs true (freezeOf s t).1]∧κ = [(0,[.d])]:=by
 have hput:=dFz_put s.fz t true
 refine fbS Tryz.func58 Tryz.ntmps58 [.tmp 4] fun w0 I0 F0 hF=>?_
 cases hv:val s.L t with
 | false =>
  have he:freezeOf s t = (s,1):=by simp [freezeOf,hv]
  repeat first|refine n1 ?_|((first|refine rg 0 [0,1] [0,1] [] ?_|refine rg 1 [0,1] [0,1,8] [] ?_);simp (maxSteps:=1000000) [hF])
  refine (tis_ok true h t).go [(0,[])] (by simp (maxSteps:=1000000) [hF,dTs,hv]) ?_;rintro av X κ ⟨rfl,rfl,rfl⟩;simp (maxSteps:=1000000) [hF,dTs,hv]
  repeat first|refine n1 ?_|((first|refine rg 2 [] [4] [] ?_|refine nc ?_);simp (maxSteps:=1000000) [hF])
  (try refine nr ?_);(repeat first|refine nb_ ?_|refine nl_ ?_);refine endS.of ?_;refine endK.o [4] [0] [(0,[.d])] ?_;simp [hF,retK,covers,mpre,dTs,he]
 | true =>
  have he:freezeOf s t = ({ s with fz:=aput s.fz t true },0):=by simp [freezeOf,hv]
  repeat first|refine n1 ?_|((first|refine rg 0 [0,1] [0,1] [] ?_|refine rg 1 [0,1] [0,1,8] [] ?_);simp (maxSteps:=1000000) [hF])
  refine (tis_ok true h t).go [(0,[])] (by simp (maxSteps:=1000000) [hF,dTs,hv]) ?_;rintro av X κ ⟨rfl,rfl,rfl⟩;simp (maxSteps:=1000000) [hF,dTs,hv]
  repeat first|refine n1 ?_|refine n2 ?_|((refine nc ?_);simp (maxSteps:=1000000) [hF])
  refine ghostL 0 [.d,.f 2] ?_;simp (maxSteps:=1000000) [hF,St.lift,AV.lift,liftPl,stripP,nodeAV,isNode,dTs]
  repeat first|refine n1 ?_|((first|refine rg 3 [0,1] [] [] ?_|refine rg 4 [] [4] [] ?_);simp (maxSteps:=1000000) [hF,hput])
  (try refine nr ?_);(repeat first|refine nb_ ?_|refine nl_ ?_);refine endS.settle 0 [.d,.f 2] (.mp 1 []) (by simp) (by simp) (by simp [hF,Tk.tree]) (by simp [hF,Tk.tree]) ?_;simp [hF,St.settle,Tk.tree]
  (try refine nr ?_);(repeat first|refine nb_ ?_|refine nl_ ?_);refine endS.of ?_;refine endK.o [4] [0] [(0,[.d])] ?_;simp [hF,retK,covers,mpre,dTs,he]
def dKs (l:List Key):D:=sq (l.map fun k=>.agg (.cons (.val (.int .i64 k.1)) (.cons (.val (.int .i64 k.2)) .nil)))
def dKeys (l:List Key):D:=.sl true () 2 (dKs l)
@[simp high] theorem head_dKeys (l:List Key):isHead (dKeys l) = true:=by rw [dKeys,isHead]
@[simp] theorem dKs_len (l:List Key):(dKs l).len = l.length:=by simp [dKs]
theorem dKs_nth {l:List Key} {i:Nat} (h:i < l.length):(dKs l).nth i = .agg (.cons (.val (.int .i64 l[i].1)) (.cons (.val (.int .i64 l[i].2)) .nil)):=by
 rw [dKs,sq_nth_lt (by simpa using h)];simp
theorem dKs_app1 (l:List Key) (a b:Int):(dKs l).app (.cons (.agg (.cons (.val (.int .i64 a)) (.cons (.val (.int .i64 b)) .nil))) .nil) = dKs (l ++ [(a,b)]):=by
 simp only [dKs,List.map_append,←sq_app];rfl
@[simp] theorem dKs_mid_all (l:List Key):(dKs l).mid 0 l.length = dKs l:=sq_mid_all _ _ (by simp)
def dFo (f:Fo):D:=.agg (.cons (dEnt f.e) (.cons (.val (.int .i64 f.th)) (.cons (.val (.int .i64 f.md)) .nil)))
@[simp] theorem width_dFo (f:Fo):(dFo f).width = 6:=rfl
abbrev avFo (f:Fo):AV:=.agg (.cons (avEnt f.e) (.cons (avInt f.th) (.cons (avInt f.md) .nil)))
def dFoB (f:Fo×Bool):D:=.box true () (dFo f.1)
@[simp high] theorem head_dFoB (f:Fo×Bool):isHead (dFoB f) = true:=by rw [dFoB,isHead]
abbrev avFoB (f:Fo×Bool):AV:=.tup (.cons (avFo f.1) (.cons (avBool f.2) .nil))
def placesAt (x:Int) (act:List Int):List Key:=act.map (fun m=>(x,m)) ++ [(x,-1)]
def actT (x:Int) (act:List Int) (j:Nat):List Key:=(act.take j).map fun m=>(x,m)
theorem actT_len (x:Int) (act:List Int) (j:Nat):(actT x act j).length≤act.length:=by simp only [actT,List.length_map,List.length_take];omega
theorem actT_succ {x:Int} {act:List Int} {j:Nat} (h:j < act.length):actT x act (j + 1) = actT x act j ++ [(x,act[j])]:=by
 unfold actT
 rw [List.take_add_one,List.getElem?_eq_getElem h,List.map_append];rfl
theorem actT_all (x:Int) (act:List Int):placesAt x act = actT x act act.length ++ [(x,-1)]:=by rw [actT,List.take_length,placesAt]
theorem actT_zero (x:Int) (act:List Int):actT x act 0 = []:=rfl
def preT (pre:List Key) (x:Int) (act:List Int) (j:Nat):List Key:=pre ++ actT x act j
def placesL (l act:List Int):List Key:=l.flatMap fun x=>placesAt x act
theorem placesL_succ {l act:List Int} {i:Nat} (hi:i < l.length):placesL (l.take (i + 1)) act = placesL (l.take i) act ++ placesAt l[i] act:=by
 simp only [placesL]
 rw [List.take_add_one,List.getElem?_eq_getElem hi,List.flatMap_append];simp
theorem placesL_len (l act:List Int):(placesL l act).length = l.length * (act.length + 1):=by
 induction l with
 | nil=>simp [placesL]
 | cons x l ih =>
  have:placesL (x :: l) act = placesAt x act ++ placesL l act:=rfl
  rw [this,List.length_append,ih]
  simp only [placesAt,List.length_append,List.length_map,List.length_cons,List.length_nil,Nat.succ_mul];omega
theorem placesL_le (l act:List Int) (i:Nat):(placesL (l.take i) act).length≤l.length * (act.length + 1):=by
 rw [placesL_len]
 exact Nat.mul_le_mul_right _ (by rw [List.length_take];omega)
theorem places_ok (o:Bool) {s:Mt} (h:MtOk s) (t:Nat) (ht:t < s.L.length) (act:List Int) (ex:Bool) (ha:act.length≤1000):Meets Tryz.prog 81 [dTs o s] (.cons (.ptr 0 [.d]) (.cons (avInt t) (.cons (.imm 1 (dInts act) ex) .nil)))
  fun av X κ=>av = .sub 1 [] 0 (placesOf s t act).length false∧X = [dTs o s,dKeys (placesOf s t act)]∧κ = []:=by
 have W:=h.ok.wf
 have hol:(ordL s.L t).length≤1000:=W.base.elim fun _ B=>ord_len B ht (W.ord ht)
 have hp:placesOf s t act = placesL (ordL s.L t) act:=rfl
 rw [hp]
 have hall:(ordL s.L t).length * (act.length + 1)≤1001000:=Nat.le_trans (Nat.mul_le_mul hol (show act.length + 1≤1001 by omega)) (by omega)
 refine fb Tryz.func81 Tryz.ntmps81 [.tmp 6] fun w0 I0 F0 hF=>?_
 repeat first|refine n1 ?_|((first|refine rg 0 [0,1,2] [0,1,2] [] ?_|refine rg 1 [0,1,2] [2,7] [] ?_);simp (maxSteps:=1000000) [hF,dTs,dL])
 refine (Order_yes W t ht).go [(0,[.d,.f 0])] (by simp (maxSteps:=1000000) [hF,dTs,dL]) ?_;rintro av X κ ⟨rfl,rfl,rfl⟩;simp (maxSteps:=1000000) [hF,dTs,dL]
 generalize ordL s.L t = od at *
 repeat first|refine n1 ?_|refine n3 ?_|((first|refine rg 2 [2,7] [2,7,9] [] ?_|refine rg 3 [2,7,9] [2,9,23,24,25] [] ?_);simp (maxSteps:=1000000) [hF])
 refine VS.hold0 9 2 (by simp) ?_
 refine VS.pick [2,9,23,24,25] [0,1] (by simp [hF]) ?_;simp [hF]
 refine VS.rounds (fun m st=>∃ (i:Nat),i + m = od.length∧st = ⟨[(2,.imm 1 (dInts act) ex),(9,.sub 1 [] 0 (placesL (od.take i) act).length false),(23,.imm 1 (dInts od) false),(24,avInt od.length),(25,avInt i)],[dTs o s,dKeys (placesL (od.take i) act)],[],[]⟩) ⟨od.length,0,by omega,by simp [placesL,dTs,dKeys,dKs,dL]⟩ ?_
 rintro m st ⟨i,hi,rfl⟩
 repeat first|refine n1 ?_|((first|refine rg 4 [2,9,23,24,25] [2,9,23,24,25,26] [] ?_|refine nc ?_);simp (maxSteps:=1000000) [hF,dTs,dKeys])
 refine ⟨fun hlt=>?_,fun hge=>?_⟩
 ·have hi':i < od.length:=by omega
  have hn:=dInts_nth hi'
  have hsucc:=placesL_succ (act:=act) hi'
  have hle:=placesL_le od act (i + 1)
  rw [hsucc] at hle
  generalize hpre:placesL (od.take i) act = pre at *
  repeat first|refine n1 ?_|refine n2 ?_|refine n3 ?_|((first|refine rg 5 [2,9,23,24,25] [2,9,11,23,24,25] [] ?_|refine rg 6 [2,9,11,23,24,25] [2,9,11,23,24,25,29,30,31] [] ?_);simp (maxSteps:=1000000) [hF,hn,hi'])
  generalize od[i] = x at *
  refine VS.pick [2,9,11,23,24,25,29,30,31] [0,1] (by simp [hF]) ?_;simp [hF]
  refine VS.rounds (fun m2 st=>∃ (j:Nat),j + m2 = act.length∧st = ⟨[(2,.imm 1 (dInts act) ex),(9,.sub 1 [] 0 (preT pre x act j).length false),(11,avInt x),(23,.imm 1 (dInts od) false),(24,avInt od.length),(25,avInt i),(29,.imm 1 (dInts act) ex),(30,avInt act.length),(31,avInt j)],
   [dTs o s,dKeys (preT pre x act j)],[],[]⟩) ⟨act.length,0,by omega,by simp [dTs,dKeys,actT_zero,preT]⟩ ?_
  rintro m2 st ⟨j,hj,rfl⟩
  repeat first|refine n1 ?_|((first|refine rg 7 [2,9,11,23,24,25,29,30,31] [2,9,11,23,24,25,29,30,31,32] [] ?_|refine nc ?_);simp (maxSteps:=1000000) [hF,dTs,dKeys])
  refine ⟨fun hlt2=>?_,fun hge2=>?_⟩
  ·have hj':j < act.length:=by omega
   have hn2:=dInts_nth hj'
   have ht2:=actT_succ (x:=x) hj'
   have hl2:(preT pre x act j).length≤1001000:=by
    have:=actT_len x act j
    simp only [placesAt,preT,List.length_append,List.length_map] at hle ⊢;omega
   have hsum:preT pre x act (j + 1) = preT pre x act j ++ [(x,act[j])]:=by rw [preT,ht2,preT,List.append_assoc]
   generalize preT pre x act j = q at *
   have happ:=dKs_app1 q x act[j]
   have hmid:=dKs_mid_all (q ++ [(x,act[j])])
   have b1:(q.length + 1) * 16≤140737488355328:=by omega
   have b2:q.length + 1≤9223372036854775807:=by omega
   have hw:IntKind.i64.wrap ((j:Int) + 1) = ((j + 1:Nat):Int):=by rw [IntWalk.i64_in _ (by omega)];rfl
   repeat first|refine n1 ?_|refine n2 ?_|refine n3 ?_|refine n4 ?_|refine n5 ?_|refine n6 ?_|((first|refine rg 8 [2,9,11,23,24,25,29,30,31] [2,9,11,13,23,24,25,29,30,31] [] ?_|refine rg 9 [2,9,11,13,23,24,25,29,30,31] [2,9,11,23,24,25,29,30,31] [] ?_|refine rg 10 [2,9,11,23,24,25,29,30,31] [2,9,11,23,24,25,29,30,31] [] ?_);simp (maxSteps:=1000000) [hF,hn2,hj',happ,b1,b2,hw])
   refine nextK.of [2,9,11,23,24,25,29,30,31] [0,1] (m2 - 1) (by omega) (by simp [hF]) ?_
   refine ⟨j + 1,by omega,?_⟩
   rw [hsum]
   simp [dTs,dKeys]
  ·obtain rfl:j = act.length:=by omega
   have hl2:(preT pre x act act.length).length≤1001000:=by
    have:=actT_len x act act.length
    simp only [placesAt,preT,List.length_append,List.length_map] at hle ⊢;omega
   have hsum:pre ++ placesAt x act = preT pre x act act.length ++ [(x,-1)]:=by rw [actT_all,preT,List.append_assoc]
   rw [hsum] at hsucc
   generalize preT pre x act act.length = q at *
   have happ:=dKs_app1 q x (-1)
   have hmid:=dKs_mid_all (q ++ [(x,-1)])
   have b1:(q.length + 1) * 16≤140737488355328:=by omega
   have b2:q.length + 1≤9223372036854775807:=by omega
   have hw:IntKind.i64.wrap ((i:Int) + 1) = ((i + 1:Nat):Int):=by rw [IntWalk.i64_in _ (by omega)];rfl
   repeat first|refine n4 ?_|refine n5 ?_|refine n6 ?_|refine n7 ?_|refine n8 ?_|refine n0 ?_|((first|refine rg 11 [2,9,11,23,24,25] [2,9,23,24,25] [] ?_|refine rg 12 [2,9,23,24,25] [2,9,23,24,25] [] ?_);simp (maxSteps:=1000000) [hF,happ,b1,b2,hw])
   refine nextK.of [2,9,23,24,25] [0,1] (m - 1) (by omega) (by simp [hF]) ?_
   refine ⟨i + 1,by omega,?_⟩
   rw [hsucc]
   simp [dTs,dKeys]
 ·obtain rfl:i = od.length:=by omega
  rw [List.take_length]
  repeat first|refine n1 ?_|refine n7 ?_|((refine rg 13 [9] [6] [] ?_);simp (maxSteps:=1000000) [hF])
  (try refine nr ?_);(repeat first|refine nb_ ?_|refine nl_ ?_);refine endK.o [6] [0,1] [] ?_;simp [hF,retK,covers,mpre,dTs,dKeys]
theorem first_ok (o:Bool) (s:Mt) (l:List Key) (lo m:Nat) (hlo:lo + m = l.length) (hm:m≤2000000) (ex:Bool) (n:ByteArray):Meets Tryz.prog 80 [dTs o s,dKeys l] (.cons (.ptr 0 [.d]) (.cons (.sub 1 [] lo m ex) (.cons (.val (.string n)) .nil)))
  fun av X κ=>av = avFoB (firstOf s (l.drop lo) n)∧X = [dTs o s,dKeys l,dFoB (firstOf s (l.drop lo) n)]∧κ = []:=by
 refine fb Tryz.func80 Tryz.ntmps80 [.cell 6 43,.tmp 7] fun w0 I0 F0 hF=>?_
 repeat first|refine n1 ?_|refine n3 ?_|((first|refine rg 0 [0,1,2] [0,1,2,6] [] ?_|refine rg 1 [0,1,2,6] [0,2,6,12,13,14] [] ?_);simp (maxSteps:=1000000) [hF,dKeys])
 refine VS.pick [0,2,6,12,13,14] [0,1,2] (by simp [hF]) ?_;simp [hF]
 refine VS.rounds (fun q st=>∃ (i:Nat),i + q = m∧firstOf s (l.drop lo) n = firstOf s (l.drop (lo + i)) n∧st = ⟨[(0,.ptr 0 [.d]),(2,.val (.string n)),(6,.ptr 2 [.d]),(12,.sub 1 [] lo m ex),(13,avInt m),(14,avInt i)],[dTs o s,dKeys l,.box true () (dFo Fo.none)],[],[]⟩) ⟨m,0,by omega,rfl,by simp [dTs,dKeys,dFo,Fo.none,En.none,dEnt]⟩ ?_
 rintro q st ⟨i,hi,hf,rfl⟩
 repeat first|refine n1 ?_|((first|refine rg 2 [0,2,6,12,13,14] [0,2,6,12,13,14,15] [] ?_|refine nc ?_);simp (maxSteps:=1000000) [hF,dKeys])
 refine ⟨fun hlt=>?_,fun hge=>?_⟩
 ·have hi':i < m:=by omega
  have hil:lo + i < l.length:=by omega
  have hn:=dKs_nth hil
  have hdrop:l.drop (lo + i) = l[lo + i] :: l.drop (lo + (i + 1)):=by rw [List.drop_eq_getElem_cons hil];rfl
  rw [hdrop] at hf
  obtain ⟨⟨a,b⟩,hk⟩:∃ k,l[lo + i] = k:=⟨_,rfl⟩
  rw [hk] at hf hn
  simp only [firstOf,lkp] at hf
  have hfind:=dRows_find o s.tabs a b
  have hix:=dRows_ix o s.tabs a b
  have hw:IntKind.i64.wrap ((i:Int) + 1) = ((i + 1:Nat):Int):=by rw [IntWalk.i64_in _ (by omega)];rfl
  cases hg:aget s.tabs (a,b) with
  | none =>
   rw [hg] at hfind hf
   simp only [Option.map_none,Option.bind_none] at hfind hf
   repeat first|refine n1 ?_|refine n2 ?_|refine n3 ?_|refine n4 ?_|refine n5 ?_|refine n6 ?_|((first|refine rg 3 [0,2,6,12,13,14] [0,2,6,9,12,13,14] [] ?_|(refine dr 4 0 [0,2,6,9,12,13,14] [0,2,6,9,10,11,12,13,14] [] [⟨0,1,524288,5⟩,⟨1,524288,1048576,5⟩,⟨2,1048576,2097152,5⟩,⟨4,2097152,4194304,6⟩,⟨0,512,8388608,6⟩,⟨24,12582912,16777216,4⟩,⟨0,4,33554432,5⟩,⟨96,50331648,67108864,4⟩,⟨128,67108864,262144,5⟩,⟨256,262144,134217728,5⟩,⟨256,262144,268435456,5⟩,⟨0,0,1024,4⟩,⟨3071,134218752,0,0⟩,⟨8191,268435456,2048,5⟩] (.take 0 (.take 1 (.take 2 (.take 3 (.take 4 (.take 6 (.fork (.alt 5 (.fork (.alt 7 (.take 8 (.take 9 (.take 10 (.fork (.alt 11 (.fork (.alt 12 (.take 13 (.done)) (.nil))) (.nil)))))) (.alt 11 (.fork (.alt 7 (.take 8 (.take 9 (.take 10 (.fork (.alt 12 (.take 13 (.done)) (.nil)))))) (.nil))) (.nil)))) (.alt 11 (.fork (.alt 5 (.fork (.alt 7 (.take 8 (.take 9 (.take 10 (.fork (.alt 12 (.take 13 (.done)) (.nil)))))) (.nil))) (.nil))) (.nil)))))))))) (.run [0,1,2,3,4,6] (.both (.run [5] (.both (.run [7,8,9,10,11,12,13] (.done)) (.run [11,7,8,9,10,12,13] (.done)))) (.run [11,5,7,8,9,10,12,13] (.done)))) ?_;simp only [drs])|refine rg 5 [0,2,6,9,10,11,12,13,14] [0,2,6,9,10,12,13,14,29] [] ?_|refine rg 7 [0,2,6,12,13,14] [0,2,6,12,13,14] [] ?_|refine nc ?_);simp (maxSteps:=1000000) [hF,dTs,dKeys,hn,hi',hil,hfind,hw])
   refine nextK.of [0,2,6,12,13,14] [0,1,2] (q - 1) (by omega) (by simp [hF]) ?_
   exact ⟨i + 1,by omega,hf,by simp [dTs,dKeys]⟩
  | some t =>
   rw [hg] at hfind hf
   simp only [Option.map_some,Option.bind_some] at hfind hf
   obtain ⟨hlt2,hat⟩:=aidx_lt hg
   have hnth:=dRows_nth o ⟨hlt2,hat⟩
   have hnf:=dNs_find t n
   cases hg2:aget t n with
   | none =>
    rw [hg2] at hnf hf
    simp only [Option.map_none] at hnf hf
    repeat first|refine n1 ?_|refine n2 ?_|refine n3 ?_|refine n4 ?_|refine n5 ?_|refine n6 ?_|((first|refine rg 3 [0,2,6,12,13,14] [0,2,6,9,12,13,14] [] ?_|(refine dr 4 0 [0,2,6,9,12,13,14] [0,2,6,9,10,11,12,13,14] [] [⟨0,1,524288,5⟩,⟨1,524288,1048576,5⟩,⟨2,1048576,2097152,5⟩,⟨4,2097152,4194304,6⟩,⟨0,512,8388608,6⟩,⟨24,12582912,16777216,4⟩,⟨0,4,33554432,5⟩,⟨96,50331648,67108864,4⟩,⟨128,67108864,262144,5⟩,⟨256,262144,134217728,5⟩,⟨256,262144,268435456,5⟩,⟨0,0,1024,4⟩,⟨3071,134218752,0,0⟩,⟨8191,268435456,2048,5⟩] (.take 0 (.take 1 (.take 2 (.take 3 (.take 4 (.take 6 (.fork (.alt 5 (.fork (.alt 7 (.take 8 (.take 9 (.take 10 (.fork (.alt 11 (.fork (.alt 12 (.take 13 (.done)) (.nil))) (.nil)))))) (.alt 11 (.fork (.alt 7 (.take 8 (.take 9 (.take 10 (.fork (.alt 12 (.take 13 (.done)) (.nil)))))) (.nil))) (.nil)))) (.alt 11 (.fork (.alt 5 (.fork (.alt 7 (.take 8 (.take 9 (.take 10 (.fork (.alt 12 (.take 13 (.done)) (.nil)))))) (.nil))) (.nil))) (.nil)))))))))) (.run [0,1,2,3,4,6] (.both (.run [5] (.both (.run [7,8,9,10,11,12,13] (.done)) (.run [11,7,8,9,10,12,13] (.done)))) (.run [11,5,7,8,9,10,12,13] (.done)))) ?_;simp only [drs])|refine rg 5 [0,2,6,9,10,11,12,13,14] [0,2,6,9,10,12,13,14,29] [] ?_|refine rg 7 [0,2,6,12,13,14] [0,2,6,12,13,14] [] ?_|refine nc ?_);simp (maxSteps:=1000000) [hF,dTs,dKeys,hn,hi',hil,hfind,hix,hnth,hnf,hw])
    refine nextK.of [0,2,6,12,13,14] [0,1,2] (q - 1) (by omega) (by simp [hF]) ?_
    exact ⟨i + 1,by omega,hf,by simp [dTs,dKeys]⟩
   | some e =>
    rw [hg2] at hnf hf
    simp only [Option.map_some] at hnf hf
    repeat first|refine n1 ?_|refine n2 ?_|refine n3 ?_|((first|refine rg 3 [0,2,6,12,13,14] [0,2,6,9,12,13,14] [] ?_|(refine dr 4 0 [0,2,6,9,12,13,14] [0,2,6,9,10,11,12,13,14] [] [⟨0,1,524288,5⟩,⟨1,524288,1048576,5⟩,⟨2,1048576,2097152,5⟩,⟨4,2097152,4194304,6⟩,⟨0,512,8388608,6⟩,⟨24,12582912,16777216,4⟩,⟨0,4,33554432,5⟩,⟨96,50331648,67108864,4⟩,⟨128,67108864,262144,5⟩,⟨256,262144,134217728,5⟩,⟨256,262144,268435456,5⟩,⟨0,0,1024,4⟩,⟨3071,134218752,0,0⟩,⟨8191,268435456,2048,5⟩] (.take 0 (.take 1 (.take 2 (.take 3 (.take 4 (.take 6 (.fork (.alt 5 (.fork (.alt 7 (.take 8 (.take 9 (.take 10 (.fork (.alt 11 (.fork (.alt 12 (.take 13 (.done)) (.nil))) (.nil)))))) (.alt 11 (.fork (.alt 7 (.take 8 (.take 9 (.take 10 (.fork (.alt 12 (.take 13 (.done)) (.nil)))))) (.nil))) (.nil)))) (.alt 11 (.fork (.alt 5 (.fork (.alt 7 (.take 8 (.take 9 (.take 10 (.fork (.alt 12 (.take 13 (.done)) (.nil)))))) (.nil))) (.nil))) (.nil)))))))))) (.run [0,1,2,3,4,6] (.both (.run [5] (.both (.run [7,8,9,10,11,12,13] (.done)) (.run [11,7,8,9,10,12,13] (.done)))) (.run [11,5,7,8,9,10,12,13] (.done)))) ?_;simp only [drs])|refine rg 5 [0,2,6,9,10,11,12,13,14] [0,2,6,9,10,12,13,14,29] [] ?_|(refine dr 6 0 [6,9,10] [6,7] [] [⟨0,1024,1073741824,6⟩,⟨0,512,2147483648,5⟩,⟨2,2147483648,4294967296,6⟩,⟨0,512,8589934592,5⟩,⟨8,8589934592,17179869184,6⟩,⟨21,22548578304,34359738368,5⟩,⟨0,1024,68719476736,5⟩,⟨64,68719476736,137438953472,6⟩,⟨128,137438953472,274877906944,5⟩,⟨63,34359738432,0,0⟩,⟨1023,274877906944,128,5⟩] (.take 0 (.take 1 (.take 2 (.take 3 (.take 4 (.take 5 (.take 6 (.fork (.alt 7 (.take 8 (.fork (.alt 9 (.take 10 (.done)) (.nil)))) (.alt 9 (.take 7 (.take 8 (.take 10 (.done)))) (.nil))))))))))) (.run [0,1,2,3,4,5,6] (.both (.run [7,8,9,10] (.done)) (.run [9,7,8,10] (.done)))) ?_;simp only [drs])|refine nc ?_);simp (maxSteps:=1000000) [hF,dTs,dKeys,hn,hi',hil,hfind,hix,hnth,hnf,hw,dEnt])
    (try refine nr ?_);(repeat first|refine nb_ ?_|refine nl_ ?_);refine endK.o [6,7] [0,1,2] [] ?_;simp [hF,retK,covers,mpre,dTs,dKeys,hf,dFoB,dFo,dEnt]
 ·obtain rfl:i = m:=by omega
  have hf2:firstOf s (l.drop lo) n = (Fo.none,false):=by rw [hf,List.drop_of_length_le (by omega)];rfl
  repeat first|refine n1 ?_|refine n7 ?_|((refine rg 8 [6] [6,7] [] ?_);simp (maxSteps:=1000000) [hF])
  (try refine nr ?_);(repeat first|refine nb_ ?_|refine nl_ ?_);refine endK.o [6,7] [0,1,2] [] ?_;simp [hF,retK,covers,mpre,dTs,dKeys,hf2,Fo.none,En.none,dFoB,dFo,dEnt]
theorem tfind_ok (o:Bool) {s:Mt} (h:MtOk s) (t:Nat) (ht:t < s.L.length) (n:ByteArray) (act:List Int) (ex:Bool) (ha:act.length≤1000):Meets Tryz.prog 34 [dTs o s] (.cons (.ptr 0 [.d]) (.cons (avInt t) (.cons (.val (.string n)) (.cons (.imm 1 (dInts act) ex) .nil))))
  fun av X κ=>av = avFoB (findOf s t n act)∧X = [dTs o s,dFoB (findOf s t n act)]∧κ = []:=by
 have hl:(placesOf s t act).length≤2000000:=by
  have hol:(ordL s.L t).length≤1000:=h.ok.wf.base.elim fun _ B=>ord_len B ht (h.ok.wf.ord ht)
  have h1:=placesL_len (ordL s.L t) act
  have h2:(ordL s.L t).length * (act.length + 1)≤1000 * 1001:=Nat.mul_le_mul hol (by omega)
  show (placesL (ordL s.L t) act).length≤_
  omega
 have hfi:=first_ok o s (placesOf s t act) 0 (placesOf s t act).length (by omega) hl false n
 rw [List.drop_zero] at hfi
 have hfo:findOf s t n act = firstOf s (placesOf s t act) n:=rfl
 rw [hfo]
 refine fb Tryz.func34 Tryz.ntmps34 [.cell 8 43,.tmp 9] fun w0 I0 F0 hF=>?_
 repeat first|refine n1 ?_|((first|refine rg 0 [0,1,2,3] [0,1,2,3,8] [] ?_|refine rg 1 [0,1,2,3,8] [8,9] [] ?_);simp (maxSteps:=1000000) [hF])
 refine (places_ok o h t ht act ex ha).go [(0,[])] (by simp (maxSteps:=1000000) [hF,dTs,dKeys]) ?_;rintro av X κ ⟨rfl,rfl,rfl⟩;simp (maxSteps:=1000000) [hF,dTs,dKeys]
 refine (hfi).go [(0,[]),(2,[])] (by simp (maxSteps:=1000000) [hF,dTs,dKeys,dFoB]) ?_;rintro av X κ ⟨rfl,rfl,rfl⟩;simp (maxSteps:=1000000) [hF,dTs,dKeys,dFoB]
 repeat first|refine n1 ?_
 (try refine nr ?_);(repeat first|refine nb_ ?_|refine nl_ ?_);refine endK.o [8,9] [0,1] [] ?_;simp [hF,retK,covers,mpre,dTs,dFoB,dFo,dEnt]
theorem tfind_nil (o:Bool) {s:Mt} (h:MtOk s) (t:Nat) (ht:t < s.L.length) (n:ByteArray):Meets Tryz.prog 34 [dTs o s] (.cons (.ptr 0 [.d]) (.cons (avInt t) (.cons (.val (.string n)) (.cons (.nils 1) .nil))))
  fun av X κ=>av = avFoB (findOf s t n [])∧X = [dTs o s,dFoB (findOf s t n [])]∧κ = []:=Meets.nilled (tfind_ok o h t ht n [] true (by simp))
theorem chg_val {s:Mt} {t:Int} {fine:Bool} {ns:List ByteArray} (h:chgE s t fine ns = 0):∃ k:Nat,t = k∧k < s.L.length:=by
 refine val_nat ?_
 cases hv:val s.L t with
 | true=>rfl
 | false=>simp [chgE,askE,hv] at h
theorem Undefine_ok {s:Mt} (h:MtOk s) (t:Int) (n:ByteArray):Meets Tryz.prog 22 [dTs true s] (.cons (.ptr 0 [.d]) (.cons (avInt t) (.cons (.val (.string n)) .nil)))
  fun av X κ=>av = avInt (undefOf s t n).2∧X = [dTs true (undefOf s t n).1]∧κ = [(0,[.d])]:=by
 have hch:=changes_ok true h t true [n] true (by simp)
 refine fb Tryz.func22 Tryz.ntmps22 [.tmp 6] fun w0 I0 F0 hF=>?_
 repeat first|refine n1 ?_|((first|refine rg 0 [0,1,2] [0,1,2] [] ?_|refine rg 1 [0,1,2] [0,1,2,7] [] ?_);simp (maxSteps:=1000000) [hF])
 refine (hch).go [(0,[]),(1,[])] (by simp (maxSteps:=1000000) [hF,dTs,dNames,strs_one]) ?_;rintro av X κ ⟨rfl,rfl,rfl⟩;simp (maxSteps:=1000000) [hF,dTs,dNames,strs_one]
 by_cases h0:chgE s t true [n] = 0
 ·obtain ⟨k,rfl,hk⟩:=chg_val h0
  have hfd:=tfind_nil true h k hk n
  repeat first|refine n1 ?_|refine n2 ?_|((first|refine rg 2 [0,1,2,7] [0,1,2,7,16] [] ?_|refine rg 4 [0,1,2] [0,1,2,9] [] ?_|refine nc ?_);simp (maxSteps:=1000000) [hF,h0])
  refine (hfd).go [(0,[])] (by simp (maxSteps:=1000000) [hF,dTs,dFoB]) ?_;rintro av X κ ⟨rfl,rfl,rfl⟩;simp (maxSteps:=1000000) [hF,dTs,dFoB]
  cases hb:(findOf s k n []).2 with
  | false =>
   have he:undefOf s k n = (s,3):=by simp [undefOf,h0,hb]
   repeat first|refine n1 ?_|((first|refine rg 5 [0,1,2,9] [0,1,2,26] [] ?_|refine rg 6 [] [6] [] ?_|refine nc ?_);simp (maxSteps:=1000000) [hF,hb,dFo,dEnt])
   (try refine nr ?_);(repeat first|refine nb_ ?_|refine nl_ ?_);refine endK.o [6] [0] [(0,[.d])] ?_;simp [hF,retK,covers,mpre,dTs,he]
  | true =>
   have he:undefOf s k n = (putOf s (k,-1) n ⟨-1,0,k,n⟩,0):=by simp [undefOf,h0,hb]
   repeat first|refine n1 ?_|refine n2 ?_|((first|refine rg 5 [0,1,2,9] [0,1,2,26] [] ?_|refine rg 7 [0,1,2] [] [] ?_|refine nc ?_);simp (maxSteps:=1000000) [hF,hb,dFo,dEnt])
   refine (put_ok s k (-1) n ⟨-1,0,k,n⟩).go [(0,[])] (by simp (maxSteps:=1000000) [hF,dTs]) ?_;rintro av X κ ⟨rfl,rfl,rfl⟩;simp (maxSteps:=1000000) [hF,dTs]
   repeat first|refine n1 ?_|((refine rg 8 [] [6] [] ?_);simp (maxSteps:=1000000) [hF])
   (try refine nr ?_);(repeat first|refine nb_ ?_|refine nl_ ?_);refine endK.o [6] [0] [(0,[.d])] ?_;simp [hF,retK,covers,mpre,dTs,he]
 ·have he:undefOf s t n = (s,chgE s t true [n]):=by simp [undefOf,h0]
  repeat first|refine n1 ?_|((first|refine rg 2 [0,1,2,7] [0,1,2,7,16] [] ?_|refine rg 3 [7] [6] [] ?_|refine nc ?_);simp (maxSteps:=1000000) [hF,h0])
  (try refine nr ?_);(repeat first|refine nb_ ?_|refine nl_ ?_);refine endK.o [6] [0] [(0,[.d])] ?_;simp [hF,retK,covers,mpre,dTs,he]
theorem Alias_ok {s:Mt} (h:MtOk s) (t:Int) (n old:ByteArray):Meets Tryz.prog 21 [dTs true s] (.cons (.ptr 0 [.d]) (.cons (avInt t) (.cons (.val (.string n)) (.cons (.val (.string old)) .nil))))
  fun av X κ=>av = avInt (aliasOf s t n old).2∧X = [dTs true (aliasOf s t n old).1]∧κ = [(0,[.d])]:=by
 have hch:=changes_ok true h t true [n,old] true (by simp)
 have h2:(.cons (.val (.string n)) (.cons (.val (.string old)) .nil):D) = strs [n,old]:=rfl
 refine fb Tryz.func21 Tryz.ntmps21 [.tmp 8] fun w0 I0 F0 hF=>?_
 repeat first|refine n1 ?_|((first|refine rg 0 [0,1,2,3] [0,1,2,3] [] ?_|refine rg 1 [0,1,2,3] [0,1,2,3,9] [] ?_);simp (maxSteps:=1000000) [hF])
 refine (hch).go [(0,[]),(1,[])] (by simp (maxSteps:=1000000) [hF,dTs,dNames,h2]) ?_;rintro av X κ ⟨rfl,rfl,rfl⟩;simp (maxSteps:=1000000) [hF,dTs,dNames,h2]
 by_cases h0:chgE s t true [n,old] = 0
 ·obtain ⟨k,rfl,hk⟩:=chg_val h0
  have hfd:=tfind_nil true h k hk old
  repeat first|refine n1 ?_|refine n2 ?_|((first|refine rg 2 [0,1,2,3,9] [0,1,2,3,9,19] [] ?_|refine rg 4 [0,1,2,3] [0,1,2,10,11] [] ?_|refine nc ?_);simp (maxSteps:=1000000) [hF,h0])
  refine (hfd).go [(0,[])] (by simp (maxSteps:=1000000) [hF,dTs,dFoB]) ?_;rintro av X κ ⟨rfl,rfl,rfl⟩;simp (maxSteps:=1000000) [hF,dTs,dFoB]
  cases hb:(findOf s k old []).2 with
  | false =>
   have he:aliasOf s k n old = (s,3):=by simp [aliasOf,h0,hb]
   repeat first|refine n1 ?_|((first|refine rg 5 [0,1,2,10,11] [0,1,2,10,29] [] ?_|refine rg 6 [] [8] [] ?_|refine nc ?_);simp (maxSteps:=1000000) [hF,hb,dFo,dEnt])
   (try refine nr ?_);(repeat first|refine nb_ ?_|refine nl_ ?_);refine endK.o [8] [0] [(0,[.d])] ?_;simp [hF,retK,covers,mpre,dTs,he]
  | true =>
   have he:aliasOf s k n old = (putOf s (k,-1) n (findOf s k old []).1.e,0):=by simp [aliasOf,h0,hb]
   repeat first|refine n1 ?_|refine n2 ?_|((first|refine rg 5 [0,1,2,10,11] [0,1,2,10,29] [] ?_|refine rg 7 [0,1,2,10] [] [] ?_|refine nc ?_);simp (maxSteps:=1000000) [hF,hb,dFo,dEnt])
   refine (put_ok s k (-1) n (findOf s k old []).1.e).go [(0,[])] (by simp (maxSteps:=1000000) [hF,dTs]) ?_;rintro av X κ ⟨rfl,rfl,rfl⟩;simp (maxSteps:=1000000) [hF,dTs]
   repeat first|refine n1 ?_|((refine rg 8 [] [8] [] ?_);simp (maxSteps:=1000000) [hF])
   (try refine nr ?_);(repeat first|refine nb_ ?_|refine nl_ ?_);refine endK.o [8] [0] [(0,[.d])] ?_;simp [hF,retK,covers,mpre,dTs,he]
 ·have he:aliasOf s t n old = (s,chgE s t true [n,old]):=by simp [aliasOf,h0]
  repeat first|refine n1 ?_|((first|refine rg 2 [0,1,2,3,9] [0,1,2,3,9,19] [] ?_|refine rg 3 [9] [8] [] ?_|refine nc ?_);simp (maxSteps:=1000000) [hF,h0])
  (try refine nr ?_);(repeat first|refine nb_ ?_|refine nl_ ?_);refine endK.o [8] [0] [(0,[.d])] ?_;simp [hF,retK,covers,mpre,dTs,he]
theorem Remove_ok {s:Mt} (h:MtOk s) (t:Int) (n:ByteArray):Meets Tryz.prog 12 [dTs true s] (.cons (.ptr 0 [.d]) (.cons (avInt t) (.cons (.val (.string n)) .nil)))
  fun av X κ=>av = avInt (removeOf s t n).2∧X = [dTs true (removeOf s t n).1]∧κ = [(0,[.d])]:=by
 have hch:=changes_ok true h t true [n] true (by simp)
 refine fbS Tryz.func12 Tryz.ntmps12 [.tmp 6] fun w0 I0 F0 hF=>?_
 repeat first|refine n1 ?_|((first|refine rg 0 [0,1,2] [0,1,2] [] ?_|refine rg 1 [0,1,2] [0,1,2,7] [] ?_);simp (maxSteps:=1000000) [hF])
 refine (hch).go [(0,[]),(1,[])] (by simp (maxSteps:=1000000) [hF,dTs,dNames,strs_one]) ?_;rintro av X κ ⟨rfl,rfl,rfl⟩;simp (maxSteps:=1000000) [hF,dTs,dNames,strs_one]
 by_cases h0:chgE s t true [n] = 0
 ·have hfind:=dRows_find true s.tabs t (-1)
  have hix:=dRows_ix true s.tabs t (-1)
  cases hg:aget s.tabs (t,-1) with
  | none =>
   rw [hg] at hfind
   simp only [Option.map_none] at hfind
   have he:removeOf s t n = (s,3):=by simp [removeOf,h0,lkp,hg]
   repeat first|refine n1 ?_|refine n2 ?_|((first|refine rg 2 [0,1,2,7] [0,1,2,7,16] [] ?_|refine rg 4 [0,1,2] [0,1,2,9] [] ?_|refine rg 5 [0,1,2,9] [0,1,2,31] [] ?_|refine rg 6 [] [6] [] ?_|refine nc ?_);simp (maxSteps:=1000000) [hF,h0,dTs,hfind])
   (try refine nr ?_);(repeat first|refine nb_ ?_|refine nl_ ?_);refine endS.of ?_;refine endK.o [6] [0] [(0,[.d])] ?_;simp [hF,retK,covers,mpre,dTs,he]
  | some tb =>
   rw [hg] at hfind
   simp only [Option.map_some] at hfind
   have hlt:=aidx_lt hg
   have hnth:=dRows_nth true hlt
   have hi:=hlt.1
   have hnf:=dNs_find tb n
   cases hg2:aget tb n with
   | none =>
    rw [hg2] at hnf
    simp only [Option.map_none] at hnf
    have he:removeOf s t n = (s,3):=by simp [removeOf,h0,lkp,hg,hg2]
    repeat first|refine n1 ?_|refine n2 ?_|((first|refine rg 2 [0,1,2,7] [0,1,2,7,16] [] ?_|refine rg 4 [0,1,2] [0,1,2,9] [] ?_|refine rg 5 [0,1,2,9] [0,1,2,31] [] ?_|refine rg 6 [] [6] [] ?_|refine nc ?_);simp (maxSteps:=1000000) [hF,h0,dTs,hfind,hix,hnth,hnf])
    (try refine nr ?_);(repeat first|refine nb_ ?_|refine nl_ ?_);refine endS.of ?_;refine endK.o [6] [0] [(0,[.d])] ?_;simp [hF,retK,covers,mpre,dTs,he]
   | some e =>
    rw [hg2] at hnf
    simp only [Option.map_some,dEnt] at hnf
    have he:removeOf s t n = (delOf s (t,-1) n,0):=by simp [removeOf,h0,lkp,hg,hg2]
    have hset:s.tabs.set (aidx s.tabs (t,-1)) ((t,-1),adel tb n) = (delOf s (t,-1) n).tabs:=by
     rw [←aput_at hg]
     simp [delOf,hg]
    obtain ⟨hX,hX2⟩:=dRowsX_find (o:=true) hg (.junk ())
    have hnp:=dNs_del tb n
    have hmap:=dRowsX_map true s.tabs (aidx s.tabs (t,-1)) (t,-1) (adel tb n)
    rw [hset] at hmap
    have hxn:=dRowsX_nth (o:=true) hi (t,-1) (.junk ())
    repeat first|refine n1 ?_|refine n2 ?_|((first|refine rg 2 [0,1,2,7] [0,1,2,7,16] [] ?_|refine rg 4 [0,1,2] [0,1,2,9] [] ?_|refine rg 5 [0,1,2,9] [0,1,2,31] [] ?_|refine nc ?_);simp (maxSteps:=1000000) [hF,h0,dTs,hfind,hix,hnth,hnf])
    refine VS.pick [0,1,2] [0] (by simp [hF]) ?_;simp [hF]
    refine ghostL 0 [.d,.f 1] ?_;simp (maxSteps:=1000000) [hF,St.lift,AV.lift,liftPl,stripP,nodeAV,isNode]
    refine ghostL 1 [.i (aidx s.tabs (t,-1)),.f 1] ?_;simp (maxSteps:=1000000) [hF,St.lift,AV.lift,liftPl,stripP,nodeAV,isNode,hnth,hi]
    repeat first|refine n1 ?_|((first|refine rg 7 [0,1,2] [] [] ?_|refine rg 8 [] [6] [] ?_);simp (maxSteps:=1000000) [hF,dRowsX_eq,hX,hX2,hnp])
    (try refine nr ?_);(repeat first|refine nb_ ?_|refine nl_ ?_);refine endS.settle 1 [.i (aidx s.tabs (t,-1)),.f 1] (.mp 2 []) (by simp) (by simp) (by simp [hF,Tk.tree,hi,dRowsX_set,hmap,hxn]) (by simp [hF,Tk.tree,hi,dRowsX_set,hmap,hxn]) ?_;simp [hF,St.settle,Tk.tree,hi,dRowsX_set,hmap,hxn]
    (try refine nr ?_);(repeat first|refine nb_ ?_|refine nl_ ?_);refine endS.settle 0 [.d,.f 1] (.mp 1 []) (by simp) (by simp) (by simp [hF,Tk.tree]) (by simp [hF,Tk.tree]) ?_;simp [hF,St.settle,Tk.tree]
    (try refine nr ?_);(repeat first|refine nb_ ?_|refine nl_ ?_);refine endS.of ?_;refine endK.o [6] [0] [(0,[.d])] ?_;simp [hF,retK,covers,mpre,dTs,he]
 ·have he:removeOf s t n = (s,chgE s t true [n]):=by simp [removeOf,h0]
  repeat first|refine n1 ?_|((first|refine rg 2 [0,1,2,7] [0,1,2,7,16] [] ?_|refine rg 3 [7] [6] [] ?_|refine nc ?_);simp (maxSteps:=1000000) [hF,h0])
  (try refine nr ?_);(repeat first|refine nb_ ?_|refine nl_ ?_);refine endS.of ?_;refine endK.o [6] [0] [(0,[.d])] ?_;simp [hF,retK,covers,mpre,dTs,he]
theorem Show_ok {s:Mt} (h:MtOk s) (t:Int) (n:ByteArray) (v:Int):Meets Tryz.prog 23 [dTs true s] (.cons (.ptr 0 [.d]) (.cons (avInt t) (.cons (.val (.string n)) (.cons (avInt v) .nil))))
  fun av X κ=>av = avInt (showOf s t n v).2∧X = [dTs true (showOf s t n v).1]∧κ = [(0,[.d])]:=by
 refine fb Tryz.func23 Tryz.ntmps23 [.tmp 8] fun w0 I0 F0 hF=>?_
 obtain ⟨fine,hfine⟩:∃ f,f = visB v:=⟨_,rfl⟩
 have hch:=changes_ok true h t fine [n] true (by simp)
 have hd:showOf s t n v = if chgE s t fine [n]≠0 then (s,chgE s t fine [n]) else if (findOf s t n []).2 = false then (s,3) else (putOf s (t,-1) n { shownOf s t n with vis:=v },0):=by rw [hfine];rfl
 rw [hd]
 clear hd
 by_cases h1:0≤v
 ·have hv:decide (v≤2) = fine:=by simp [hfine,visB,h1]
  repeat first|refine n1 ?_|((first|refine rg 0 [0,1,2,3] [0,1,2,3] [] ?_|refine rg 1 [0,1,2,3] [0,1,2,3,9] [(4,19)] ?_);simp (maxSteps:=1000000) [hF,h1,hv])
  clear hfine hv
  refine (hch).go [(0,[]),(1,[])] (by simp (maxSteps:=1000000) [hF,dTs,dNames,strs_one]) ?_;rintro av X κ ⟨rfl,rfl,rfl⟩;simp (maxSteps:=1000000) [hF,dTs,dNames,strs_one]
  by_cases h0:chgE s t fine [n] = 0
  ·obtain ⟨k,rfl,hk⟩:=chg_val h0
   have hfd:=tfind_nil true h k hk n
   repeat first|refine n1 ?_|refine n2 ?_|((first|refine rg 2 [0,1,2,3,9] [0,1,2,3,9,27] [] ?_|refine rg 4 [0,1,2,3] [0,1,2,3,10,11] [] ?_|refine nc ?_);simp (maxSteps:=1000000) [hF,h0])
   refine (hfd).go [(0,[])] (by simp (maxSteps:=1000000) [hF,dTs,dFoB]) ?_;rintro av X κ ⟨rfl,rfl,rfl⟩;simp (maxSteps:=1000000) [hF,dTs,dFoB]
   have hsh:shownOf s k n = match lkp s (k,-1) n with
    | some own=>if own.body≠-1 then own else (findOf s k n []).1.e
    | none=>(findOf s k n []).1.e:=rfl
   generalize findOf s k n [] = fo at *
   obtain ⟨⟨fe,fth,fmd⟩,fb⟩:=fo
   cases fb with
   | false =>
    repeat first|refine n1 ?_|((first|refine rg 5 [0,1,2,3,10,11] [0,1,2,3,10,37] [] ?_|refine rg 6 [] [8] [] ?_|refine nc ?_);simp (maxSteps:=1000000) [hF,dFo,dEnt])
    (try refine nr ?_);(repeat first|refine nb_ ?_|refine nl_ ?_);refine endK.o [8] [0] [(0,[.d])] ?_;simp [hF,retK,covers,mpre,dTs,h0]
   | true =>
    repeat first|refine n1 ?_|refine n2 ?_|((first|refine rg 5 [0,1,2,3,10,11] [0,1,2,3,10,37] [] ?_|refine rg 7 [0,1,2,3,10] [0,1,2,3,12] [] ?_|refine nc ?_);simp (maxSteps:=1000000) [hF,dFo,dEnt])
    have hfind:=dRows_find true s.tabs k (-1)
    have hix:=dRows_ix true s.tabs k (-1)
    have fin:∀ e0:En,shownOf s k n = e0→(⟨e0.body,v,e0.home,e0.known⟩:En) = { shownOf s k n with vis:=v }:=fun e0 h=>by rw [h]
    cases hg:aget s.tabs ((k:Int),-1) with
    | none =>
     rw [hg] at hfind
     simp only [Option.map_none] at hfind
     have he:=fin fe (by simp [hsh,lkp,hg])
     repeat first|refine n1 ?_|refine n2 ?_|((first|refine rg 8 [0,1,2,3,12] [0,1,2,3,12,13,14] [] ?_|refine rg 9 [0,1,2,3,12,13,14] [0,1,2,3,12,13,57] [(1,53)] ?_|refine rg 11 [0,1,2,3,12] [0,1,2,12] [] ?_|refine rg 12 [0,1,2,12] [] [] ?_|refine nc ?_);simp (maxSteps:=1000000) [hF,hfind,dTs])
     refine (put_ok s k (-1) n ⟨fe.body,v,fe.home,fe.known⟩).go [(0,[])] (by simp (maxSteps:=1000000) [hF,dTs]) ?_;rintro av X κ ⟨rfl,rfl,rfl⟩;simp (maxSteps:=1000000) [hF,dTs]
     repeat first|refine n1 ?_|((refine rg 13 [] [8] [] ?_);simp (maxSteps:=1000000) [hF])
     (try refine nr ?_);(repeat first|refine nb_ ?_|refine nl_ ?_);refine endK.o [8] [0] [(0,[.d])] ?_;simp [hF,retK,covers,mpre,dTs,h0,he]
    | some tb =>
     rw [hg] at hfind
     simp only [Option.map_some] at hfind
     have hlt:=aidx_lt hg
     have hnth:=dRows_nth true hlt
     have hi:=hlt.1
     have hnf:=dNs_find tb n
     cases hg2:aget tb n with
     | none =>
      rw [hg2] at hnf
      simp only [Option.map_none] at hnf
      have he:=fin fe (by simp [hsh,lkp,hg,hg2])
      repeat first|refine n1 ?_|refine n2 ?_|((first|refine rg 8 [0,1,2,3,12] [0,1,2,3,12,13,14] [] ?_|refine rg 9 [0,1,2,3,12,13,14] [0,1,2,3,12,13,57] [(1,53)] ?_|refine rg 11 [0,1,2,3,12] [0,1,2,12] [] ?_|refine rg 12 [0,1,2,12] [] [] ?_|refine nc ?_);simp (maxSteps:=1000000) [hF,hfind,dTs,hix,hnth,hnf])
      refine (put_ok s k (-1) n ⟨fe.body,v,fe.home,fe.known⟩).go [(0,[])] (by simp (maxSteps:=1000000) [hF,dTs]) ?_;rintro av X κ ⟨rfl,rfl,rfl⟩;simp (maxSteps:=1000000) [hF,dTs]
      repeat first|refine n1 ?_|((refine rg 13 [] [8] [] ?_);simp (maxSteps:=1000000) [hF])
      (try refine nr ?_);(repeat first|refine nb_ ?_|refine nl_ ?_);refine endK.o [8] [0] [(0,[.d])] ?_;simp [hF,retK,covers,mpre,dTs,h0,he]
     | some e =>
      rw [hg2] at hnf
      simp only [Option.map_some,dEnt] at hnf
      by_cases hb:e.body = -1
      ·have he:=fin fe (by simp [hsh,lkp,hg,hg2,hb])
       repeat first|refine n1 ?_|refine n2 ?_|((first|refine rg 8 [0,1,2,3,12] [0,1,2,3,12,13,14] [] ?_|refine rg 9 [0,1,2,3,12,13,14] [0,1,2,3,12,13,57] [(1,53)] ?_|refine rg 11 [0,1,2,3,12] [0,1,2,12] [] ?_|refine rg 12 [0,1,2,12] [] [] ?_|refine nc ?_);simp (maxSteps:=1000000) [hF,hfind,dTs,hix,hnth,hnf,hb])
       refine (put_ok s k (-1) n ⟨fe.body,v,fe.home,fe.known⟩).go [(0,[])] (by simp (maxSteps:=1000000) [hF,dTs]) ?_;rintro av X κ ⟨rfl,rfl,rfl⟩;simp (maxSteps:=1000000) [hF,dTs]
       repeat first|refine n1 ?_|((refine rg 13 [] [8] [] ?_);simp (maxSteps:=1000000) [hF])
       (try refine nr ?_);(repeat first|refine nb_ ?_|refine nl_ ?_);refine endK.o [8] [0] [(0,[.d])] ?_;simp [hF,retK,covers,mpre,dTs,h0,he]
      ·have he:=fin e (by simp [hsh,lkp,hg,hg2,hb])
       repeat first|refine n1 ?_|((first|refine rg 8 [0,1,2,3,12] [0,1,2,3,12,13,14] [] ?_|refine rg 9 [0,1,2,3,12,13,14] [0,1,2,3,12,13,57] [(1,53)] ?_|refine rg 10 [0,1,2,3,12,13] [0,1,2,3,12] [] ?_|refine rg 11 [0,1,2,3,12] [0,1,2,12] [] ?_|refine rg 12 [0,1,2,12] [] [] ?_|refine nc ?_);simp (maxSteps:=1000000) [hF,hfind,dTs,hix,hnth,hnf,hb])
       refine (put_ok s k (-1) n ⟨e.body,v,e.home,e.known⟩).go [(0,[])] (by simp (maxSteps:=1000000) [hF,dTs]) ?_;rintro av X κ ⟨rfl,rfl,rfl⟩;simp (maxSteps:=1000000) [hF,dTs]
       repeat first|refine n1 ?_|((refine rg 13 [] [8] [] ?_);simp (maxSteps:=1000000) [hF])
       (try refine nr ?_);(repeat first|refine nb_ ?_|refine nl_ ?_);refine endK.o [8] [0] [(0,[.d])] ?_;simp [hF,retK,covers,mpre,dTs,h0,he]
  ·repeat first|refine n1 ?_|((first|refine rg 2 [0,1,2,3,9] [0,1,2,3,9,27] [] ?_|refine rg 3 [9] [8] [] ?_|refine nc ?_);simp (maxSteps:=1000000) [hF,h0])
   (try refine nr ?_);(repeat first|refine nb_ ?_|refine nl_ ?_);refine endK.o [8] [0] [(0,[.d])] ?_;simp [hF,retK,covers,mpre,dTs,h0]
 ·have hv:fine = false:=by simp [hfine,visB,h1]
  subst hv
  have h0:¬ chgE s t false [n] = 0:=by simp [chgE,askE]
  repeat first|refine n1 ?_|((first|refine rg 0 [0,1,2,3] [0,1,2,3] [] ?_|refine rg 1 [0,1,2,3] [0,1,2,3,9] [(4,19)] ?_);simp (maxSteps:=1000000) [hF,h1])
  refine (hch).go [(0,[]),(1,[])] (by simp (maxSteps:=1000000) [hF,dTs,dNames,strs_one]) ?_;rintro av X κ ⟨rfl,rfl,rfl⟩;simp (maxSteps:=1000000) [hF,dTs,dNames,strs_one]
  repeat first|refine n1 ?_|((first|refine rg 2 [0,1,2,3,9] [0,1,2,3,9,27] [] ?_|refine rg 3 [9] [8] [] ?_|refine nc ?_);simp (maxSteps:=1000000) [hF,h0])
  (try refine nr ?_);(repeat first|refine nb_ ?_|refine nl_ ?_);refine endK.o [8] [0] [(0,[.d])] ?_;simp [hF,retK,covers,mpre,dTs,h0]
end Go.Proofs.YtbhigdljojlhnaaGreat

/- Chains, plainly. -/
namespace Go.Proofs.YtbhigdljojlhnaaGreat
set_option linter.all false
open Go.Vc Go.Proofs
theorem eqKey {op:BinOp} {a b c d:Int} {K:AV→Prop} (h:eqVc op (decide (a = b) && decide (c = d)) K) :
  EqK Tryz.prog 79 op (.cons (.val (.int .i64 a)) (.cons (.val (.int .i64 c)) .nil)) (.cons (.val (.int .i64 b)) (.cons (.val (.int .i64 d)) .nil)) K:=by
 refine ⟨_,⟨Tryz.eqGuardType79,fun h I F xs ys w h1 h2=>?_⟩,h⟩
 obtain ⟨_,_,rfl,⟨rfl,_⟩,_,_,rfl,⟨rfl,_⟩,rfl⟩:=h1
 obtain ⟨_,_,rfl,⟨rfl,_⟩,_,_,rfl,⟨rfl,_⟩,rfl⟩:=h2
 exact run_equal_two Tryz.underlying79 (by kernel_rfl) ⟨by decide,rfl,by kernel_rfl⟩ ⟨by decide,rfl,by kernel_rfl⟩ a b c d
theorem firstOf_hit {s:Mt} {n:ByteArray}:∀ {l:List Key} {f:Fo},firstOf s l n = (f,true)→∃ i,∃ hi:i < l.length,l[i] = (f.th,f.md)∧lkp s (f.th,f.md) n = some f.e∧f.e.body≠-1∧∀ j,(hj:j < i)→lkp s (l[j]'(by omega)) n = none
 | [],f,h=>by cases h
 | k :: l,f,h=>by
  unfold firstOf at h
  split at h
  ·rename_i e he
   simp only [Prod.mk.injEq,decide_eq_true_eq] at h
   obtain ⟨rfl,hb⟩:=h
   exact ⟨0,by simp,rfl,he,hb,fun j hj=>by omega⟩
  ·rename_i he
   obtain ⟨i,hi,h1,h2,h3,h4⟩:=firstOf_hit h
   refine ⟨i + 1,by simp only [List.length_cons];omega,by simpa using h1,h2,h3,fun j hj=>?_⟩
   cases j with
   | zero=>simpa using he
   | succ j=>simpa using h4 j (by omega)
theorem places_nil (s:Mt) (t:Int):placesOf s t [] = (ordL s.L t).map fun x=>(x,-1):=by
 show (ordL s.L t).flatMap (fun x=>placesAt x []) = _
 generalize ordL s.L t = l
 induction l with
 | nil=>rfl
 | cons x l ih=>rw [List.flatMap_cons,ih];rfl
def posn (od:List Int) (f:Fo):Nat:=2 * od.findIdx (fun x=>decide (x = f.th)) + if f.md < 0 then 1 else 0
theorem findIdx_at {od:List Int} (hn:od.Nodup) {j:Nat} (hj:j < od.length):od.findIdx (fun x=>decide (x = od[j])) = j:=by
 rw [List.findIdx_eq hj]
 refine ⟨by simp,fun i hi=>?_⟩
 simp only [decide_eq_false_iff_not]
 intro h
 exact List.pairwise_iff_getElem.1 hn i j (by omega) hj hi h
theorem super_idx (od:List Int) (th:Int):(od.map fun x=>((x,-1):Key)).findIdx (isK th (-1)) = od.findIdx fun x=>decide (x = th):=by
 induction od with
 | nil=>rfl
 | cons x l ih =>
  by_cases h:x = th
  ·simp [List.findIdx_cons,h,isK]
  ·simp [List.findIdx_cons,h,ih,isK]
theorem super_any (od:List Int) (th:Int):(od.map fun x=>((x,-1):Key)).any (isK th (-1)) = decide (th∈od):=by
 induction od with
 | nil=>rfl
 | cons x l ih =>
  rw [List.map_cons,List.any_cons,ih]
  by_cases h:x = th
  ·simp [h,isK]
  ·simp [h,Ne.symm h,isK]
theorem superOf_eq (s:Mt) (t:Int) (n:ByteArray) (th md:Int):superOf s t n th md =
  if th∈ordL s.L t then firstOf s (((ordL s.L t).drop ((ordL s.L t).findIdx (fun x=>decide (x = th)) + if md < 0 then 1 else 0)).map fun x=>(x,-1)) n else (Fo.none,false):=by
 unfold superOf
 rw [places_nil,super_any,super_idx,List.map_drop]
 by_cases h:th∈ordL s.L t <;> simp [h]
theorem super_pos {s:Mt} {t:Int} {n:ByteArray} {f g:Fo} (hn:(ordL s.L t).Nodup) (h:superOf s t n f.th f.md = (g,true)):g.th∈ordL s.L t∧g.md = -1∧posn (ordL s.L t) f < posn (ordL s.L t) g∧g.e.body≠-1:=by
 rw [superOf_eq] at h
 split at h
 ·generalize ordL s.L t = od at *
  obtain ⟨i,hi,h1,h2,h3,_⟩:=firstOf_hit h
  rw [List.length_map,List.length_drop] at hi
  have hlt:od.findIdx (fun x=>decide (x = f.th)) + (if f.md < 0 then 1 else 0) + i < od.length:=by omega
  rw [List.getElem_map,List.getElem_drop] at h1
  simp only [Prod.mk.injEq] at h1
  obtain ⟨h1,hm⟩:=h1
  have hp:=findIdx_at hn hlt
  rw [h1] at hp
  refine ⟨by rw [←h1];exact List.getElem_mem _,hm.symm,?_,h3⟩
  unfold posn
  rw [hp,←hm]
  simp only [show ((-1:Int) < 0) = True by simp,if_true]
  split <;> omega
 ·cases h
theorem posn_le {od:List Int} {f:Fo} (h:f.th∈od):posn od f < 2 * od.length:=by
 have:od.findIdx (fun x=>decide (x = f.th)) < od.length:=List.findIdx_lt_length_of_exists ⟨f.th,h,by simp⟩
 unfold posn
 split <;> omega
theorem find_mem {s:Mt} {t:Int} {n:ByteArray} {act:List Int} {f:Fo} (h:findOf s t n act = (f,true)):f.th∈ordL s.L t∧f.e.body≠-1:=by
 obtain ⟨i,hi,h1,_,h3,_⟩:=firstOf_hit (show firstOf s (placesOf s t act) n = (f,true) from h)
 refine ⟨?_,h3⟩
 have hm:=List.getElem_mem hi
 rw [h1] at hm
 unfold placesOf at hm
 obtain ⟨x,hx,hm⟩:=List.mem_flatMap.1 hm
 rcases List.mem_append.1 hm with hm | hm
 ·obtain ⟨m,_,e⟩:=List.mem_map.1 hm
  cases e;exact hx
 ·simp only [List.mem_singleton,Prod.mk.injEq] at hm
  rw [hm.1];exact hx
noncomputable def chainF (s:Mt) (t:Int) (n:ByteArray):Nat→Fo→List Fo
 | 0,_=>[]
 | k + 1,f=>f :: if (superOf s t n f.th f.md).2 = true then chainF s t n k (superOf s t n f.th f.md).1 else []
noncomputable def ChainOf (s:Mt) (t:Int) (n:ByteArray) (act:List Int):List Fo×Int :=
 if (FindOf s t n act).2≠0 then ([],(FindOf s t n act).2) else (chainF s t n (2 * (ordL s.L t).length + 2) (FindOf s t n act).1,0)
end Go.Proofs.YtbhigdljojlhnaaGreat

/- Find, super, Chain, Lineage. -/
namespace Go.Proofs.YtbhigdljojlhnaaGreat
set_option linter.all false
open Go.Vc Go.Proofs
set_option linter.unusedSimpArgs false
set_option linter.unusedVariables false
set_option maxRecDepth 100000
set_option maxHeartbeats 4000000
attribute [local irreducible] CallW EqK
def dJB:D:=.box true () (.junk ())
@[simp high] theorem head_dJB:isHead dJB = true:=by rw [dJB,isHead]
theorem act1_ok (o:Bool) {s:Mt} (h:MtOk s) (x:Int):MeetsP Tryz.prog 78 [dTs o s,dJB] [(1,[.d],.ptr 0 [.d])] (.cons (avInt x) (.cons (.ptr 1 [.d]) .nil)) fun av X κ=>av = avBool (!modB s x)∧X = [dTs o s,dJB]∧κ = []:=by
 refine fbP Tryz.func78 Tryz.ntmps78 [.tmp 3] fun w0 I0 F0 hF=>?_
 repeat first|refine n1 ?_|((first|refine rg 0 [0,1] [0,1] [] ?_|refine rg 1 [0,1] [3] [] ?_);simp (maxSteps:=1000000) [hF,dJB,dTs])
 refine (mod_ok o h x).go [(0,[])] (by simp (maxSteps:=1000000) [hF,dJB,dTs]) ?_;rintro av X κ ⟨rfl,rfl,rfl⟩;simp (maxSteps:=1000000) [hF,dJB,dTs]
 repeat first|refine n1 ?_
 (try refine nr ?_);(repeat first|refine nb_ ?_|refine nl_ ?_);refine endK.o [3] [0,1] [] ?_;simp [hF,retK,covers,mpre,dJB,dTs]
theorem indexFunc_m (o:Bool) {s:Mt} (hs:MtOk s) (ex:Bool) (ls:List Int) (hl:ls.length≤100000000) :
  MeetsP Tryz.prog 116 [dTs o s,dJB] [(1,[.d],.ptr 0 [.d])] (.cons (.imm 1 (dInts ls) ex) (.cons (.fn 78 (.cons (.ptr 1 [.d]) .nil)) .nil))
  fun av X κ=>av = avInt (ixF (fun m=>!modB s m) ls)∧X = [dTs o s,dJB]∧κ = []:=by
 refine fbP Tryz.func116 Tryz.ntmps116 [.tmp 4] fun w0 I0 F0 hF=>?_
 repeat first|refine n1 ?_|refine n3 ?_|((first|refine rg 0 [0,1] [0,1] [] ?_|refine rg 1 [0,1] [0,1,7,8] [] ?_);simp (maxSteps:=1000000) [hF,dJB,dTs])
 refine VS.rounds (fun m st=>∃ (i:Nat),i + m = ls.length∧(∀ j,(h:j < ls.length)→j < i→(!modB s ls[j]) = false)∧st = ⟨[(0,.imm 1 (dInts ls) ex),(1,.fn 78 (.cons (.ptr 1 [.d]) .nil)),(7,avInt ls.length),(8,avInt i)],[dTs o s,dJB],[],[(1,[.d],.ptr 0 [.d])]⟩) ⟨ls.length,0,by omega,by omega,by simp [dJB,dTs]⟩ ?_
 rintro m st ⟨i,hi,hall,rfl⟩
 repeat first|refine n1 ?_|((first|refine rg 2 [0,1,7,8] [0,1,7,8,9] [] ?_|refine nc ?_);simp (maxSteps:=1000000) [hF,dJB,dTs])
 refine ⟨fun hlt=>?_,fun hge=>?_⟩
 ·have hi':i < ls.length:=by omega
  have hn:=dInts_nth hi'
  repeat first|refine n1 ?_|refine n2 ?_|refine n3 ?_|((first|refine rg 3 [0,1,7,8] [0,1,5,7,8] [] ?_|refine rg 4 [0,1,5,7,8] [0,1,5,7,8,16] [] ?_);simp (maxSteps:=1000000) [hF,hn,hi',dJB,dTs])
  refine (act1_ok o hs ls[i]).goP [(0,[]),(1,[])] (by simp (maxSteps:=1000000) [hF,plsOk,dJB,dTs]) ?_;rintro av X κ ⟨rfl,rfl,rfl⟩;simp (maxSteps:=1000000) [hF,dJB,dTs]
  cases hp:modB s ls[i] with
  | false =>
   have hr:ixF (fun m=>!modB s m) ls = i:=ixF_hit hi' (fun j h=>hall j (by omega) h) (by simp [hp])
   repeat first|refine n1 ?_|((first|refine rg 5 [5] [4] [] ?_|refine nc ?_);simp (maxSteps:=1000000) [hF,hp])
   (try refine nr ?_);(repeat first|refine nb_ ?_|refine nl_ ?_);refine endK.o [4] [0,1] [] ?_;simp [hF,retK,covers,mpre,hr,dJB,dTs]
  | true =>
   repeat first|refine n2 ?_|refine n4 ?_|refine n5 ?_|refine n6 ?_|((first|refine rg 6 [0,1,7,8] [0,1,7,8] [] ?_|refine nc ?_);simp (maxSteps:=1000000) [hF,hp])
   refine nextK.of [0,1,7,8] [0,1] (m - 1) (by omega) (by simp [hF]) ?_
   refine ⟨i + 1,by omega,?_,?_⟩
   ·intro j hj hji
    rcases Nat.lt_or_ge j i with h' | h'
    ·exact hall j hj h'
    ·obtain rfl:j = i:=by omega
     simp [hp]
   ·simp [dJB,dTs]
    exact IntWalk.i64_in _ (by omega)
 ·have hr:ixF (fun m=>!modB s m) ls = -1:=ixF_miss (fun j h=>hall j h (by omega))
  repeat first|refine n1 ?_|refine n7 ?_|((refine rg 7 [] [4] [] ?_);simp (maxSteps:=1000000) [hF])
  (try refine nr ?_);(repeat first|refine nb_ ?_|refine nl_ ?_);refine endK.o [4] [0,1] [] ?_;simp [hF,retK,covers,mpre,hr,dJB,dTs]
theorem containsFunc_m (o:Bool) {s:Mt} (hs:MtOk s) (ex:Bool) (ls:List Int) (hl:ls.length≤100000000) :
  MeetsP Tryz.prog 77 [dTs o s,dJB] [(1,[.d],.ptr 0 [.d])] (.cons (.imm 1 (dInts ls) ex) (.cons (.fn 78 (.cons (.ptr 1 [.d]) .nil)) .nil))
  fun av X κ=>av = avBool (!actB s ls)∧X = [dTs o s,dJB]∧κ = []:=by
 refine fbP Tryz.func77 Tryz.ntmps77 [.tmp 4] fun w0 I0 F0 hF=>?_
 repeat first|refine n1 ?_|((first|refine rg 0 [0,1] [0,1] [] ?_|refine rg 1 [0,1] [4] [] ?_);simp (maxSteps:=1000000) [hF,dJB,dTs])
 refine (indexFunc_m o hs ex ls hl).goP [(0,[]),(1,[])] (by simp (maxSteps:=1000000) [hF,plsOk,dJB,dTs]) ?_;rintro av X κ ⟨rfl,rfl,rfl⟩;simp (maxSteps:=1000000) [hF,dJB,dTs]
 repeat first|refine n1 ?_
 have h:decide ((0:Int)≤ixF (fun m=>!modB s m) ls) = !actB s ls:=by
  simp only [ixF_ge,Bool.decide_eq_true,actB]
  clear hl hF
  induction ls with
  | nil=>rfl
  | cons a l ih=>simp only [List.any_cons,List.all_cons,ih,Bool.not_and]
 (try refine nr ?_);(repeat first|refine nb_ ?_|refine nl_ ?_);refine endK.o [4] [0,1] [] ?_;simp [hF,retK,covers,mpre,h,dJB,dTs]
theorem actives_ok (o:Bool) {s:Mt} (h:MtOk s) (ls:List Int) (ex:Bool) (hl:ls.length≤100000000):Meets Tryz.prog 32 [dTs o s] (.cons (.ptr 0 [.d]) (.cons (.imm 1 (dInts ls) ex) .nil))
  fun av X κ=>av = avBool (actB s ls)∧X = [dTs o s]∧κ = []:=by
 refine fb Tryz.func32 Tryz.ntmps32 [.tmp 4] fun w0 I0 F0 hF=>?_
 repeat first|refine n1 ?_|((first|refine rg 0 [0,1] [1,2] [] ?_|refine rg 1 [1,2] [4] [(3,8)] ?_);simp (maxSteps:=1000000) [hF,dTs])
 refine (none_ok o s).go [(0,[])] (by simp (maxSteps:=1000000) [hF,dTs,dJB]) ?_;rintro av X κ ⟨rfl,rfl,rfl⟩;simp (maxSteps:=1000000) [hF,dTs,dJB]
 refine (containsFunc_m o h ex ls hl).goP [(0,[]),(1,[])] (by simp (maxSteps:=1000000) [hF,plsOk,dJB,dTs]) ?_;rintro av X κ ⟨rfl,rfl,rfl⟩;simp (maxSteps:=1000000) [hF,dJB,dTs]
 repeat first|refine n1 ?_
 (try refine nr ?_);(repeat first|refine nb_ ?_|refine nl_ ?_);refine endK.o [4] [0] [] ?_;simp [hF,retK,covers,mpre,dTs]
theorem told_ok (f:Fo) (b:Bool):Meets Tryz.prog 33 [] (.cons (avFo f) (.cons (avBool b) .nil)) fun av X κ=>av = .tup (.cons (avFo (toldOf (f,b)).1) (.cons (avInt (toldOf (f,b)).2) .nil))∧X = [.box true () (dFo f),.box true () (dFo (toldOf (f,b)).1)]∧κ = []:=by
 refine fb Tryz.func33 Tryz.ntmps33 [.cell 4 43,.tmp 5] fun w0 I0 F0 hF=>?_
 cases b with
 | true =>
  repeat first|refine n1 ?_|refine n2 ?_|((first|refine rg 0 [0,1] [1,2,4] [] ?_|refine rg 1 [1,2,4] [2,4,7] [] ?_|refine rg 3 [2,4] [4,5] [] ?_|refine nc ?_);simp (maxSteps:=1000000) [hF])
  (try refine nr ?_);(repeat first|refine nb_ ?_|refine nl_ ?_);refine endK.o [4,5] [0,1] [] ?_;simp [hF,retK,covers,mpre,toldOf,dFo,dEnt]
 | false =>
  repeat first|refine n1 ?_|((first|refine rg 0 [0,1] [1,2,4] [] ?_|refine rg 1 [1,2,4] [2,4,7] [] ?_|refine rg 2 [4] [4,5] [] ?_|refine nc ?_);simp (maxSteps:=1000000) [hF])
  (try refine nr ?_);(repeat first|refine nb_ ?_|refine nl_ ?_);refine endK.o [4,5] [0,1] [] ?_;simp [hF,retK,covers,mpre,toldOf,dFo,dEnt,Fo.none,En.none]
theorem Find_ok (o:Bool) {s:Mt} (h:MtOk s) (t:Int) (n:ByteArray) (act:List Int) (ex:Bool) (ha:act.length≤1000):Meets Tryz.prog 13 [dTs o s] (.cons (.ptr 0 [.d]) (.cons (avInt t) (.cons (.val (.string n)) (.cons (.imm 1 (dInts act) ex) .nil))))
  fun av X κ=>av = .tup (.cons (avFo (FindOf s t n act).1) (.cons (avInt (FindOf s t n act).2) .nil))∧X = [dTs o s,.box true () (dFo (FindOf s t n act).1)]∧κ = []:=by
 have hac:=asked_ok o h t (actB s act) [n] true (by simp)
 refine fb Tryz.func13 Tryz.ntmps13 [.cell 8 43,.tmp 9] fun w0 I0 F0 hF=>?_
 repeat first|refine n1 ?_|((first|refine rg 0 [0,1,2,3] [0,1,2,3,8] [] ?_|refine rg 1 [0,1,2,3,8] [0,1,2,3,8,10] [] ?_);simp (maxSteps:=1000000) [hF])
 refine (actives_ok o h act ex (by omega)).go [(0,[])] (by simp (maxSteps:=1000000) [hF,dTs]) ?_;rintro av X κ ⟨rfl,rfl,rfl⟩;simp (maxSteps:=1000000) [hF,dTs]
 refine (hac).go [(0,[]),(2,[])] (by simp (maxSteps:=1000000) [hF,dTs,dNames,strs_one n]) ?_;rintro av X κ ⟨rfl,rfl,rfl⟩;simp (maxSteps:=1000000) [hF,dTs,dNames,strs_one n]
 by_cases h0:askE s t (actB s act) [n] = 0
 ·obtain ⟨k,rfl,hk⟩:∃ k:Nat,t = k∧k < s.L.length:=by
   refine val_nat ?_
   cases hv:val s.L t with
   | true=>rfl
   | false=>simp [askE,hv] at h0
  have he:FindOf s k n act = toldOf (findOf s k n act):=by simp [FindOf,h0]
  rw [he]
  repeat first|refine n1 ?_|refine n2 ?_|((first|refine rg 2 [0,1,2,3,8,10] [0,1,2,3,8,10,20] [] ?_|refine rg 4 [0,1,2,3,8] [8,9] [] ?_|refine nc ?_);simp (maxSteps:=1000000) [hF,h0])
  refine (tfind_ok o h k hk n act ex ha).go [(0,[])] (by simp (maxSteps:=1000000) [hF,dTs,dFoB]) ?_;rintro av X κ ⟨rfl,rfl,rfl⟩;simp (maxSteps:=1000000) [hF,dTs,dFoB]
  refine (told_ok (findOf s k n act).1 (findOf s k n act).2).go [] (by simp (maxSteps:=1000000) [hF,dFo,dEnt]) ?_;rintro av X κ ⟨rfl,rfl,rfl⟩;simp (maxSteps:=1000000) [hF,dFo,dEnt]
  repeat first|refine n1 ?_
  (try refine nr ?_);(repeat first|refine nb_ ?_|refine nl_ ?_);refine endK.o [8,9] [0,1] [] ?_;simp [hF,retK,covers,mpre,dTs,dFo,dEnt]
 ·have he:FindOf s t n act = (Fo.none,askE s t (actB s act) [n]):=by simp [FindOf,h0]
  rw [he]
  repeat first|refine n1 ?_|((first|refine rg 2 [0,1,2,3,8,10] [0,1,2,3,8,10,20] [] ?_|refine rg 3 [8,10] [8,9] [] ?_|refine nc ?_);simp (maxSteps:=1000000) [hF,h0])
  (try refine nr ?_);(repeat first|refine nb_ ?_|refine nl_ ?_);refine endK.o [8,9] [0,1] [] ?_;simp [hF,retK,covers,mpre,dTs,dFo,dEnt,Fo.none,En.none]
theorem indexKey_ok (ex:Bool) (ls:List Key) (a b:Int) (hl:ls.length≤100000000) :
  Meets Tryz.prog 113 [dKeys ls] (.cons (.sub 0 [] 0 ls.length ex) (.cons (avKey a b) .nil))
  fun av X κ=>av = avInt (ixF (isK a b) ls)∧X = [dKeys ls]∧κ = []:=by
 refine fb Tryz.func113 Tryz.ntmps113 [.tmp 4] fun w0 I0 F0 hF=>?_
 repeat first|refine n1 ?_|refine n3 ?_|((first|refine rg 0 [0,1] [0,3] [] ?_|refine rg 1 [0,3] [0,3,7,8] [] ?_);simp (maxSteps:=1000000) [hF,dKeys])
 refine VS.pick [0,3,7,8] [0,1] (by simp [hF]) ?_;simp [hF]
 refine VS.rounds (fun m st=>∃ (i:Nat),i + m = ls.length∧(∀ j,(h:j < ls.length)→j < i→isK a b ls[j] = false)∧st = ⟨[(0,.sub 0 [] 0 ls.length ex),(3,.ptr 1 [.d]),(7,avInt ls.length),(8,avInt i)],[dKeys ls,.box true () (.agg (.cons (.val (.int .i64 a)) (.cons (.val (.int .i64 b)) .nil)))],[],[]⟩) ⟨ls.length,0,by omega,by omega,by simp [dKeys]⟩ ?_
 rintro m st ⟨i,hi,hall,rfl⟩
 repeat first|refine n1 ?_|((first|refine rg 2 [0,3,7,8] [0,3,7,8,9] [] ?_|refine nc ?_);simp (maxSteps:=1000000) [hF,dKeys])
 refine ⟨fun hlt=>?_,fun hge=>?_⟩
 ·have hi':i < ls.length:=by omega
  have hn:=dKs_nth hi'
  repeat first|refine n1 ?_|refine n2 ?_|refine n3 ?_|((first|refine rg 3 [0,3,7,8] [0,3,5,7,8] [] ?_|(refine dr 4 0 [0,3,5,7,8] [0,3,5,7,8,16] [] [⟨0,8,2048,6⟩,⟨0,1,4096,5⟩,⟨0,32,8192,5⟩,⟨6,12288,16384,5⟩,⟨8,16384,32768,6⟩,⟨17,34816,65536,5⟩] (.take 0 (.take 1 (.take 2 (.take 3 (.take 4 (.take 5 (.done))))))) (.run [0,1,2,3,4,5] (.done)) ?_;simp only [drs]));simp (maxSteps:=1000000) [hF,dKeys,hn,hi'])
  refine eqKey ?_
  have hd:(decide (a = ls[i].1) && decide (b = ls[i].2)) = isK a b ls[i]:=by
   simp only [isK,eq_comm]
  rw [hd]
  simp (maxSteps:=1000000) [hF,dKeys,eqVc,BoolK]
  cases hp:isK a b ls[i] with
  | true =>
   have hr:ixF (isK a b) ls = i:=ixF_hit hi' (fun j h=>hall j (by omega) h) hp
   repeat first|refine n1 ?_|((first|refine rg 5 [5] [4] [] ?_|refine nc ?_);simp (maxSteps:=1000000) [hF,hp])
   (try refine nr ?_);(repeat first|refine nb_ ?_|refine nl_ ?_);refine endK.o [4] [0] [] ?_;simp [hF,retK,covers,mpre,hr,dKeys]
  | false =>
   repeat first|refine n2 ?_|refine n4 ?_|refine n5 ?_|refine n6 ?_|((first|refine rg 6 [0,3,7,8] [0,3,7,8] [] ?_|refine nc ?_);simp (maxSteps:=1000000) [hF,hp])
   refine nextK.of [0,3,7,8] [0,1] (m - 1) (by omega) (by simp [hF]) ?_
   refine ⟨i + 1,by omega,?_,?_⟩
   ·intro j hj hji
    rcases Nat.lt_or_ge j i with h' | h'
    ·exact hall j hj h'
    ·obtain rfl:j = i:=by omega
     exact hp
   ·simp [dKeys]
    exact IntWalk.i64_in _ (by omega)
 ·have hr:ixF (isK a b) ls = -1:=ixF_miss (fun j h=>hall j h (by omega))
  repeat first|refine n1 ?_|refine n7 ?_|((refine rg 7 [] [4] [] ?_);simp (maxSteps:=1000000) [hF])
  (try refine nr ?_);(repeat first|refine nb_ ?_|refine nl_ ?_);refine endK.o [4] [0] [] ?_;simp [hF,retK,covers,mpre,hr,dKeys]
theorem Lineage_ok (o:Bool) (s:Mt):Meets Tryz.prog 18 [dTs o s] (.cons (.ptr 0 [.d]) .nil) fun av X κ=>av = .ptr 0 [.d,.f 0,.d]∧X = [dTs o s]∧κ = []:=by
 refine fb Tryz.func18 Tryz.ntmps18 [.tmp 2] fun w0 I0 F0 hF=>?_
 repeat first|refine n1 ?_|refine n2 ?_|((first|refine rg 0 [0] [0] [] ?_|refine rg 1 [0] [0,4] [] ?_|refine rg 3 [0] [2] [] ?_|refine nc ?_);simp (maxSteps:=1000000) [hF,dTs,dL])
 (try refine nr ?_);(repeat first|refine nb_ ?_|refine nl_ ?_);refine endK.o [2] [0] [] ?_;simp [hF,retK,covers,mpre,dTs,dL]
theorem super_ok (o:Bool) {s:Mt} (h:MtOk s) (t:Nat) (ht:t < s.L.length) (n:ByteArray) (f:Fo):Meets Tryz.prog 68 [dTs o s] (.cons (.ptr 0 [.d]) (.cons (avInt t) (.cons (.val (.string n)) (.cons (avFo f) .nil))))
  fun av X κ=>av = avFoB (superOf s t n f.th f.md)∧X = [dTs o s,.box true () (dFo (superOf s t n f.th f.md).1)]∧κ = []:=by
 have hpl:Meets Tryz.prog 81 [dTs o s] (.cons (.ptr 0 [.d]) (.cons (avInt t) (.cons (.nils 1) .nil))) fun av X κ=>av = .sub 1 [] 0 (placesOf s t []).length false∧X = [dTs o s,dKeys (placesOf s t [])]∧κ = []:=Meets.nilled (places_ok o h t ht [] true (by simp))
 have hol:(ordL s.L t).length≤1000:=h.ok.wf.base.elim fun _ B=>ord_len B ht (h.ok.wf.ord ht)
 have hlen:(placesOf s t []).length≤1000:=by rw [places_nil,List.length_map];exact hol
 have hso:superOf s t n f.th f.md = if (placesOf s t []).any (isK f.th (-1)) = false then (Fo.none,false)
  else firstOf s ((placesOf s t []).drop ((placesOf s t []).findIdx (isK f.th (-1)) + if f.md < 0 then 1 else 0)) n:=rfl
 refine fb Tryz.func68 Tryz.ntmps68 [.cell 8 43,.tmp 9] fun w0 I0 F0 hF=>?_
 repeat first|refine n1 ?_|((first|refine rg 0 [0,1,2,3] [0,1,2,7,8] [] ?_|refine rg 1 [0,1,2,7,8] [0,2,7,8,10] [] ?_);simp (maxSteps:=1000000) [hF])
 refine (hpl).go [(0,[])] (by simp (maxSteps:=1000000) [hF,dTs,dKeys]) ?_;rintro av X κ ⟨rfl,rfl,rfl⟩;simp (maxSteps:=1000000) [hF,dTs,dKeys]
 generalize placesOf s t [] = l at *
 repeat first|refine n1 ?_|((refine rg 2 [0,2,7,8,10] [0,2,7,8,10,11] [] ?_);simp (maxSteps:=1000000) [hF])
 refine (indexKey_ok false l f.th (-1) (by omega)).go [(3,[])] (by simp (maxSteps:=1000000) [hF,dKeys,dFo,dEnt]) ?_;rintro av X κ ⟨rfl,rfl,rfl⟩;simp (maxSteps:=1000000) [hF,dKeys,dFo,dEnt]
 by_cases hat:ixF (isK f.th (-1)) l = -1
 ·have ha:l.any (isK f.th (-1)) = false:=by
   cases hx:l.any (isK f.th (-1)) with
   | false=>rfl
   | true=>rw [←ixF_ge] at hx;omega
  rw [ha] at hso
  have he:superOf s t n f.th f.md = (Fo.none,false):=by rw [hso];simp
  rw [he]
  repeat first|refine n1 ?_|refine n3 ?_|((first|refine rg 3 [0,2,7,8,10,11] [0,2,7,8,10,11,20] [] ?_|refine rg 4 [8] [8,9] [] ?_|refine nc ?_);simp (maxSteps:=1000000) [hF,hat])
  (try refine nr ?_);(repeat first|refine nb_ ?_|refine nl_ ?_);refine endK.o [8,9] [0,2] [] ?_;simp [hF,retK,covers,mpre,dTs,dFo,dEnt,Fo.none,En.none]
 ·obtain ⟨i,hi,hie,hp,hall⟩:=ixF_some hat
  have ha:l.any (isK f.th (-1)) = true:=by rw [←ixF_ge];omega
  have hfi:l.findIdx (isK f.th (-1)) = i:=(List.findIdx_eq hi).2 ⟨hp,fun j hj=>hall j hj⟩
  rw [ha,hfi] at hso
  have hneg:¬ (i:Int) < 0:=by omega
  by_cases hm:f.md < 0
  ·have he:superOf s t n f.th f.md = firstOf s (l.drop (i + 1)) n:=by rw [hso];simp [hm]
   have hw:IntKind.i64.wrap ((i:Int) + 1) = ((i + 1:Nat):Int):=by rw [IntWalk.i64_in _ (by omega)];rfl
   have hle:((i + 1:Nat):Int)≤l.length:=by omega
   have hle2:i + 1≤l.length:=by omega
   have hle3:0≤(i:Int) + 1:=by omega
   rw [he]
   repeat first|refine n1 ?_|refine n3 ?_|refine n4 ?_|((first|refine rg 3 [0,2,7,8,10,11] [0,2,7,8,10,11,20] [] ?_|refine rg 5 [0,2,7,8,10,11] [0,2,8,10,11,24] [] ?_|refine rg 6 [0,2,8,10,11] [0,2,8,10,11] [] ?_|refine rg 7 [0,2,8,10,11] [8,9] [] ?_|refine nc ?_);simp (maxSteps:=1000000) [hF,hie,hneg,hm,hw,hle,hle2,hle3])
   refine (first_ok o s l (i + 1) (l.length - (i + 1)) (by omega) (by omega) false n).go [(0,[]),(3,[])] (by simp (maxSteps:=1000000) [hF,dTs,dKeys,dFoB]) ?_;rintro av X κ ⟨rfl,rfl,rfl⟩;simp (maxSteps:=1000000) [hF,dTs,dKeys,dFoB]
   repeat first|refine n1 ?_
   (try refine nr ?_);(repeat first|refine nb_ ?_|refine nl_ ?_);refine endK.o [8,9] [0,2] [] ?_;simp [hF,retK,covers,mpre,dTs,dFo,dEnt]
  ·have he:superOf s t n f.th f.md = firstOf s (l.drop i) n:=by rw [hso];simp [hm]
   have hle:(i:Int)≤l.length:=by omega
   have hle2:i≤l.length:=by omega
   rw [he]
   repeat first|refine n1 ?_|refine n2 ?_|refine n3 ?_|refine n4 ?_|((first|refine rg 3 [0,2,7,8,10,11] [0,2,7,8,10,11,20] [] ?_|refine rg 5 [0,2,7,8,10,11] [0,2,8,10,11,24] [] ?_|refine rg 7 [0,2,8,10,11] [8,9] [] ?_|refine nc ?_);simp (maxSteps:=1000000) [hF,hie,hneg,hm,hle,hle2])
   refine (first_ok o s l i (l.length - i) (by omega) (by omega) false n).go [(0,[]),(3,[])] (by simp (maxSteps:=1000000) [hF,dTs,dKeys,dFoB]) ?_;rintro av X κ ⟨rfl,rfl,rfl⟩;simp (maxSteps:=1000000) [hF,dTs,dKeys,dFoB]
   repeat first|refine n1 ?_
   (try refine nr ?_);(repeat first|refine nb_ ?_|refine nl_ ?_);refine endK.o [8,9] [0,2] [] ?_;simp [hF,retK,covers,mpre,dTs,dFo,dEnt]
def dFos (l:List Fo):D:=sq (l.map dFo)
@[simp] theorem dFos_len (l:List Fo):(dFos l).len = l.length:=by simp [dFos]
theorem dFos_nth {l:List Fo} {i:Nat} (h:i < l.length):(dFos l).nth i = dFo l[i]:=by rw [dFos,sq_nth_lt (by simpa using h)];simp
theorem dFos_app1 (l:List Fo) (f:Fo):(dFos l).app (.cons (dFo f) .nil) = dFos (l ++ [f]):=by simp only [dFos,List.map_append,←sq_app];rfl
@[simp] theorem dFos_free (l:List Fo):(dFos l).free = true:=sq_free fun x hx=>by obtain ⟨n,_,rfl⟩:=List.mem_map.1 hx;rfl
@[simp] theorem dFos_mid_all (l:List Fo):(dFos l).mid 0 l.length = dFos l:=sq_mid_all _ _ (by simp)
theorem Chain_ok (o:Bool) {s:Mt} (h:MtOk s) (t:Int) (n:ByteArray) (act:List Int) (ex:Bool) (ha:act.length≤1000):Meets Tryz.prog 24 [dTs o s] (.cons (.ptr 0 [.d]) (.cons (avInt t) (.cons (.val (.string n)) (.cons (.imm 1 (dInts act) ex) .nil))))
  fun av X κ=>(if (ChainOf s t n act).2 = 0 then (∃ ex,av = avTwo (.sub 1 [] 0 (ChainOf s t n act).1.length ex) 0)∧X = [dTs o s,.sl true () 6 (dFos (ChainOf s t n act).1)] else av = avTwo (.nils 6) (ChainOf s t n act).2∧X = [dTs o s])∧κ = []:=by
 have hfd:=Find_ok o h t n act ex ha
 refine fb Tryz.func24 Tryz.ntmps24 [.tmp 8,.tmp 9] fun w0 I0 F0 hF=>?_
 repeat first|refine n1 ?_|((first|refine rg 0 [0,1,2,3] [0,1,2,3] [] ?_|refine rg 1 [0,1,2,3] [0,1,2,10,11] [] ?_);simp (maxSteps:=1000000) [hF])
 refine (hfd).go [(0,[])] (by simp (maxSteps:=1000000) [hF,dTs,dFo,dEnt]) ?_;rintro av X κ ⟨rfl,rfl,rfl⟩;simp (maxSteps:=1000000) [hF,dTs,dFo,dEnt]
 by_cases h0:(FindOf s t n act).2 = 0
 ·obtain ⟨k,rfl,hk⟩:∃ k:Nat,t = k∧k < s.L.length:=by
   refine val_nat ?_
   cases hv:val s.L t with
   | true=>rfl
   | false=>simp [FindOf,askE,hv] at h0
  have hFe:FindOf s k n act = ((findOf s k n act).1,0)∧(findOf s k n act).2 = true:=by
   unfold FindOf at h0 ⊢
   split at h0
   ·exact absurd h0 (by assumption)
   ·rename_i ha0
    rw [if_neg ha0]
    unfold toldOf at h0 ⊢
    split at h0
    ·cases h0
    ·rename_i hb
     rw [if_neg hb]
     exact ⟨rfl,by simpa using hb⟩
  have hmem:=find_mem (s:=s) (t:=(k:Int)) (n:=n) (act:=act) (f:=(findOf s k n act).1) (by rw [←hFe.2])
  have hnd:(ordL s.L k).Nodup:=(ordL_spec h.ok.wf hk).1
  have hol:(ordL s.L k).length≤1000:=h.ok.wf.base.elim fun _ B=>ord_len B hk (h.ok.wf.ord hk)
  have hc:ChainOf s k n act = (chainF s k n (2 * (ordL s.L k).length + 2) (findOf s k n act).1,0):=by
   simp only [ChainOf,hFe.1];rfl
  rw [hc]
  rw [hFe.1] at *
  simp only [if_true]
  generalize (findOf s k n act).1 = f0 at *
  clear hfd hFe
  repeat first|refine n1 ?_|refine n2 ?_|refine n3 ?_|((first|refine rg 2 [0,1,2,10,11] [0,1,2,10,11,24] [] ?_|refine rg 4 [0,1,2,10] [0,1,2,12] [] ?_|refine nc ?_);simp (maxSteps:=1000000) [hF,dFo,dEnt])
  refine VS.pick [0,1,2,12] [0,3] (by simp [hF]) ?_;simp [hF]
  refine VS.rounds (fun m st=>∃ (pre:List Fo) (f:Fo) (ex:Bool),chainF s k n (2 * (ordL s.L k).length + 2) f0 = pre ++ chainF s k n (m + 1) f∧f.th∈ordL s.L k∧2 * (ordL s.L k).length≤m + posn (ordL s.L k) f∧pre.length + m≤2002 ∧
   st = ⟨[(0,.ptr 0 [.d]),(1,avInt k),(2,.val (.string n)),(12,.sub 1 [] 0 (pre ++ [f]).length ex)],[dTs o s,.sl true () 6 (dFos (pre ++ [f]))],[],[]⟩) ⟨2 * (ordL s.L k).length + 1,[],f0,true,rfl,hmem.1,by omega,by simp;omega,by simp [dTs,dFos,dFo,dEnt,sq]⟩ ?_
  rintro m st ⟨pre,f,ex,hch,hfm,hms,hpl,rfl⟩
  have hso:=super_ok o h k hk n f
  have hnx:(dFos (pre ++ [f])).nth pre.length = dFo f:=by rw [dFos_nth (by simp)];simp
  have hw:IntKind.i64.wrap (((pre ++ [f]).length:Int) - 1) = pre.length:=by
   rw [List.length_append,List.length_singleton,IntWalk.i64_in _ (by omega)];omega
  have hlt:(pre.length:Int) < (pre ++ [f]).length:=by simp;omega
  have hlt2:pre.length < (pre ++ [f]).length:=by simp
  have hlen:(pre ++ [f]).length = pre.length + 1:=by simp
  have hpe:=posn_le hfm
  have hc1:chainF s k n (m + 1) f = f :: if (superOf s k n f.th f.md).2 = true then chainF s k n m (superOf s k n f.th f.md).1 else []:=rfl
  rw [hc1] at hch
  generalize chainF s k n (2 * (ordL s.L k).length + 2) f0 = tot at *
  generalize hq:pre ++ [f] = q at *
  repeat first|refine n1 ?_|refine n3 ?_|((refine rg 5 [0,1,2,12] [0,1,2,12,13,14] [] ?_);simp (maxSteps:=1000000) [hF,hw,hnx,hlt,hlt2,dFo,dEnt])
  refine (hso).go [(0,[])] (by simp (maxSteps:=1000000) [hF,dTs,dFo,dEnt]) ?_;rintro av X κ ⟨rfl,rfl,rfl⟩;simp (maxSteps:=1000000) [hF,dTs,dFo,dEnt]
  cases hb:(superOf s k n f.th f.md).2 with
  | false =>
   rw [hb] at hch
   simp only [Bool.false_eq_true,if_false] at hch
   have hch2:tot = q:=by rw [hch];exact hq
   repeat first|refine n1 ?_|((first|refine rg 6 [0,1,2,12,13,14] [0,1,2,12,13,42] [] ?_|refine rg 7 [12] [8,9] [] ?_|refine nc ?_);simp (maxSteps:=1000000) [hF,hb])
   (try refine nr ?_);(repeat first|refine nb_ ?_|refine nl_ ?_);refine endK.o [8,9] [0,1] [] ?_;simp [hF,retK,covers,mpre,dTs,hch2]
  | true =>
   rw [hb] at hch
   simp only [if_true] at hch
   obtain ⟨g1,g2,g3,g4⟩:=super_pos hnd (show superOf s k n f.th f.md = ((superOf s k n f.th f.md).1,true) from by rw [←hb])
   have happ:=dFos_app1 q (superOf s k n f.th f.md).1
   have b1:(q.length + 1) * 56≤140737488355328:=by omega
   have b2:q.length + 1≤9223372036854775807:=by omega
   have hmid:=dFos_mid_all (q ++ [(superOf s k n f.th f.md).1])
   generalize (superOf s k n f.th f.md).1 = g at *
   simp only [dFo,dEnt] at happ
   obtain ⟨m,rfl⟩:∃ m',m = m' + 1:=⟨m - 1,by have:=posn_le g1;omega⟩
   cases ex
   ·repeat first|refine n1 ?_|refine n2 ?_|refine n4 ?_|refine n6 ?_|((first|refine rg 6 [0,1,2,12,13,14] [0,1,2,12,13,42] [] ?_|refine rg 8 [0,1,2,12,13] [0,1,2,12] [] ?_|refine nc ?_);simp (maxSteps:=1000000) [hF,hb,happ,b1,b2])
    refine nextK.of [0,1,2,12] [0,1] (m) (by omega) (by simp [hF]) ?_
    refine ⟨q,g,false,by rw [hch,←hq,List.append_assoc];rfl,g1,by omega,by omega,?_⟩
    simp [dTs]
   ·rw [hlen] at b1 b2
    have hmid2:(dFos q).mid 0 (pre.length + 1) = dFos q:=by rw [←hlen];exact dFos_mid_all q
    simp only [hlen]
    repeat first|refine n1 ?_|refine n2 ?_|refine n4 ?_|refine n6 ?_|((first|refine rg 6 [0,1,2,12,13,14] [0,1,2,12,13,42] [] ?_|refine rg 8 [0,1,2,12,13] [0,1,2,12] [] ?_|refine nc ?_);simp (maxSteps:=1000000) [hF,hb,happ,b1,b2,hmid2])
    refine nextK.of [0,1,2,12] [0,5] (m) (by omega) (by simp [hF]) ?_
    refine ⟨q,g,false,by rw [hch,←hq,List.append_assoc];rfl,g1,by omega,by omega,?_⟩
    simp [dTs,hlen]
 ·have he:ChainOf s t n act = ([],(FindOf s t n act).2):=by simp [ChainOf,h0]
  repeat first|refine n1 ?_|((first|refine rg 2 [0,1,2,10,11] [0,1,2,10,11,24] [] ?_|refine rg 3 [11] [8,9] [] ?_|refine nc ?_);simp (maxSteps:=1000000) [hF,h0])
  (try refine nr ?_);(repeat first|refine nb_ ?_|refine nl_ ?_);refine endK.o [8,9] [0] [] ?_;simp [hF,retK,covers,mpre,dTs,he,h0]
end Go.Proofs.YtbhigdljojlhnaaGreat

/- A list that is handed over and never seen again may be shown as one that cannot change. -/
namespace Go.Vc
set_option linter.all false
open T (hdr blk)
theorem Meets.coolL {P:Program} {f:FuncId} {z:Nat} {s:D} {Y:List D} {t:AV} {R:AV→List D→List (Nat×Path)→Prop} (h:Meets P f Y (t.chilled (.sl true () z s)) R)
  (hR:∀ av X κ,R av X κ→av.plain = true) :
  Meets P f (.sl true () z s :: Y) t fun av X κ=>∃ av0 X0 κ0,R av0 X0 κ0∧av = av0.emb [] 1∧X = .junk () :: X0∧κ = (0,[]) :: κ0.map fun e=>(e.1 + 1,e.2):=by
 refine ⟨h.1,fun w I F0 vs hY hH hnd hap hlt hil hvs=>?_⟩
 obtain ⟨g0,FY,rfl⟩:∃ g0 FY,F0 = g0 :: FY:=by
  cases F0 with
  | nil=>simp at hY
  | cons g0 l=>exact ⟨g0,l,rfl⟩
 simp only [List.map_cons,List.cons.injEq] at hY
 obtain ⟨hY,hYs⟩:=hY
 have hg0:=hH g0 (by simp)
 have hcons:∀ F:List G,own (g0 :: F) = own [g0] ++ own F:=fun F=>by simp [own]
 have hog:own [g0] = g0.owned:=by simp [own]
 rw [hcons] at hnd hap hlt
 obtain ⟨hnd1,hnd2,hnd3⟩:=List.nodup_append.1 hnd
 have harg:=hvs.chilled (I':=fun b'=>I b'∨b'∈own [g0]) hg0 (fun _ h=>.inl h) (fun b hb=>.inr (by rw [hog];exact hb))
 rw [hY] at harg
 refine Calls.mono (h.2 w _ FY vs hYs (fun g' hg'=>(hH g' (by simp [hg'])).agree (fun _ _=>rfl) (fun _ _=>rfl) fun _ h=>.inl h) hnd2
  (fun b' hb h'=>h'.elim (hap b' (by simp [hb])) fun h'=>hnd3 b' h' b' hb rfl) (fun b' hb=>hlt b' (by simp [hb])) (fun b' hb=>hb.elim (hil b') fun h'=>hlt b' (by simp [h'])) harg) fun e w' he=>?_
 obtain ⟨v',av,X,κ,I',F',rfl,hRR,hi,hr⟩:=he
 have hp:=hR _ _ _ hRR
 obtain ⟨a,s0,rfl⟩:∃ a s0,g0 = .sl true a z s0:=by
  cases g0 <;> simp only [T.erase] at hY <;> cases hY
  exact ⟨_,_,rfl⟩
 have haone:a.oneCell' = true:=by
  obtain ⟨_,_,_,h4⟩:=hg0
  cases a <;> first | rfl | exact absurd h4 (by simp)
 have hj:own ((.junk a:G) :: F') = own F':=by simp [own,T.owned]
 have hdt:∀ q,dead ((0,[]) :: κ.map fun e=>(e.1 + 1,e.2)) 0 q true = true:=fun q=>by simp [dead,mpre]
 have hdf:∀ q,dead ((0,[]) :: κ.map fun e=>(e.1 + 1,e.2)) 0 q false = true∨q = []:=fun q=>by cases q <;> simp [dead,mpre]
 refine ⟨v',av.emb [] 1,.junk () :: X,(0,[]) :: κ.map fun e=>(e.1 + 1,e.2),I',.junk a :: F',rfl,⟨av,X,κ,hRR,rfl,rfl,rfl⟩,⟨?_,?_,?_,?_,?_,?_,hi.os,hi.tape,hi.output,hi.size,?_,?_,fun _ hb=>hi.imono _ (.inl hb),?_,?_⟩,hr.shift hp⟩
 ·simp [hi.erase,T.erase]
 ·intro g' hg'
  rcases List.mem_cons.1 hg' with rfl | hg'
  ·exact haone
  ·exact hi.holds g' hg'
 ·rw [hj];exact hi.nodup
 ·rw [hj];exact hi.apart
 ·rw [hj];exact hi.lt
 ·exact hi.ilt
 ·intro b' hb hn
  rw [hcons] at hn
  exact hi.frame b' hb fun h'=>hn (by simp [h'])
 ·intro b' hb hlt'
  rw [hj] at hb
  rw [hcons]
  simp [hi.fresh b' hb hlt']
 ·intro b' hb
  rw [hcons]
  rcases hi.inew b' hb with (h1 | h1) | h1 | h1
  ·exact .inl h1
  ·exact .inr (.inr (by simp [h1]))
  ·exact .inr (.inl h1)
  ·exact .inr (.inr (by simp [h1]))
 ·intro k g1 hk
  cases k with
  | zero =>
   simp only [List.getElem?_cons_zero,Option.some.injEq] at hk
   subst hk
   refine ⟨_,rfl,rfl,fun q hq=>?_,fun q hq=>?_,fun q v _ hq=>?_⟩
   ·rcases hdf q with h | rfl
    ·rw [h] at hq;cases hq
    ·rfl
   ·rw [hdt] at hq;cases hq
   ·rw [hdt] at hq;cases hq
  | succ k =>
   simp only [List.getElem?_cons_succ] at hk
   obtain ⟨g',q1,q2,q3,q4,q5⟩:=hi.base k g1 hk
   have hds:∀ q s,dead ((0,[]) :: κ.map fun e=>(e.1 + 1,e.2)) (k + 1) q s = dead κ k q s:=fun q s=>by
    rw [←dead_shift κ k q s];unfold dead;rw [List.any_cons];simp
   exact ⟨g',by simpa using q1,q2,fun q hq=>q3 q (by rwa [hds] at hq),fun q hq=>q4 q (by rwa [hds] at hq),fun q v hv hq=>q5 q v hv (by rwa [hds] at hq)⟩
theorem dead_filter (κ:List (Nat×Path)) (nb k:Nat) (q:Path) (s:Bool) (h:k < nb):dead (κ.filter fun e=>Nat.blt e.1 nb) k q s = dead κ k q s:=by
 induction κ with
 | nil=>rfl
 | cons e l ih =>
  rw [List.filter_cons]
  cases hb:Nat.blt e.1 nb with
  | true=>simp only [if_true,dead,List.any_cons] at ih ⊢;rw [ih]
  | false =>
   have hne:(k == e.1) = false:=by
    have:¬ e.1 < nb:=fun h'=>by rw [←Nat.blt_eq,hb] at h';cases h'
    simp;omega
   simp only [Bool.false_eq_true,if_false,dead,List.any_cons] at ih ⊢
   rw [ih,hne];rfl
theorem VS.unmark {c:Cx} {x:Code} {l:List Code} {K:Exit→St→Prop} {st:St} (κ':List (Nat×Path)) (hk:(st.κ.filter fun e=>Nat.blt e.1 c.F0.length) = κ')
  (h:VS c (x :: l) K { st with κ:=κ' }):VS c (x :: l) K st :=
 VS.ghost (st':={ st with κ:=κ' }) (fun a w hr=>by
  obtain ⟨h1,h2,I,F,hi,he,hp⟩:=hr
  refine ⟨h1,h2,I,F,hi.rekill fun k q s hlt hd=>?_,he,hp⟩
  rw [←hk,dead_filter _ _ _ _ _ hlt] at hd
  exact hd) h
end Go.Vc

/- New; the sane examples. -/
namespace Go.Proofs.YtbhigdljojlhnaaGreat
set_option linter.all false
open Go.Vc Go.Proofs
set_option linter.unusedSimpArgs false
set_option linter.unusedVariables false
set_option maxRecDepth 100000
set_option maxHeartbeats 4000000
attribute [local irreducible] CallW EqK
theorem New_ok {L:List Th} (h:OK L) (hp:0 < L.length):Meets Tryz.prog 42 [dL L] (.cons (.ptr 0 [.d]) .nil)
  fun av X κ=>av = avTwo (.ptr 1 [.d]) 0∧X = [dL L,dTs true ⟨L,[],[]⟩]∧κ = []:=by
 have hl:=h.len
 have hz:¬ L.length = 0:=by omega
 refine fb Tryz.func42 Tryz.ntmps42 [.tmp 2,.tmp 3] fun w0 I0 F0 hF=>?_
 repeat first|refine n1 ?_|((first|refine rg 0 [0] [0] [] ?_|refine rg 1 [0] [0,6] [] ?_);simp (maxSteps:=1000000) [hF])
 refine (len_ok L hl).go [(0,[])] (by simp (maxSteps:=1000000) [hF,dL,hz]) ?_;rintro av X κ ⟨rfl,rfl,rfl⟩;simp (maxSteps:=1000000) [hF,dL,hz]
 repeat first|refine n1 ?_|refine n2 ?_|((first|refine rg 3 [0] [2,3] [] ?_|refine nc ?_);simp (maxSteps:=1000000) [hF])
 refine (copy_ok h hp).go [(0,[])] (by simp (maxSteps:=1000000) [hF,dL]) ?_;rintro av X κ ⟨rfl,rfl,rfl⟩;simp (maxSteps:=1000000) [hF,dL]
 repeat first|refine n1 ?_
 (try refine nr ?_);(repeat first|refine nb_ ?_|refine nl_ ?_);refine endK.o [2,3] [0,4] [] ?_;simp [hF,retK,covers,mpre,dL,dTs]
abbrev nA:ByteArray:=⟨#[97]⟩
abbrev nB:ByteArray:=⟨#[98]⟩
def LA:List Th:=L0 ++ [newTh 0 0 (-1)]
def LB:List Th:=LA ++ [newTh 1 (-1) (-1)]
theorem LA_OK:OK LA:=(add_OK (k:=0) (s:=0) (o:=-1) L0_OK (by decide) (by decide) (fun _=>by decide) (fun h=>absurd h (by decide))).1
theorem LB_OK:OK LB:=(add_OK (k:=1) (s:=-1) (o:=-1) LA_OK (by decide) (by decide) (fun h=>absurd h (by decide)) (fun _=>by decide)).1
theorem oA0:ordL LA 0 = [0]:=by
 have:ordOf LA 0 = some [0]:=ordOf_iff.2 ⟨3,by decide⟩
 unfold ordL;rw [this]
theorem oA1:ordL LA 1 = [1,0]:=by
 have:ordOf LA 1 = some [1,0]:=ordOf_iff.2 ⟨3,by decide⟩
 unfold ordL;rw [this]
theorem oB1:ordL LB 1 = [1,0]:=by
 have:ordOf LB 1 = some [1,0]:=ordOf_iff.2 ⟨3,by decide⟩
 unfold ordL;rw [this]
def s1:Mt:=⟨LA,[],[]⟩
def s2:Mt:=⟨LA,[((0,-1),[(nA,⟨7,0,0,nA⟩)])],[]⟩
def s3:Mt:=⟨LA,[((0,-1),[(nA,⟨7,0,0,nA⟩)]),((1,-1),[(nA,⟨-1,0,1,nA⟩)])],[]⟩
def s4:Mt:=⟨LB,s3.tabs,[]⟩
def s5:Mt:=⟨LB,[((0,-1),[(nA,⟨7,0,0,nA⟩)]),((1,-1),[(nA,⟨-1,0,1,nA⟩)]),((0,2),[(nB,⟨8,0,0,nB⟩)])],[]⟩
theorem m0:MtOk ⟨L0,[],[]⟩:=⟨L0_OK,by decide,by decide,(fun _ _ h=>by cases h),by decide⟩
theorem m1:MtOk s1:=⟨LA_OK,by decide,by decide,(fun _ _ h=>by cases h),by decide⟩
theorem m2:MtOk s2:=m1.put (0,-1) nA ⟨7,0,0,nA⟩
theorem m3:MtOk s3:=m2.put (1,-1) nA ⟨-1,0,1,nA⟩
theorem m4:MtOk s4:=⟨LB_OK,by decide,m3.nd,m3.ns,m3.nf⟩
theorem m5:MtOk s5:=m4.put (0,2) nB ⟨8,0,0,nB⟩
theorem e1:classOf L0 0 = (LA,1,0):=rfl
theorem e2:defineOf s1 0 nA 7 0 = (s2,0):=rfl
theorem q1:findOf s2 1 nA [] = (⟨⟨7,0,0,nA⟩,0,-1⟩,true):=by
 have:ordL s2.L 1 = [1,0]:=oA1
 unfold findOf placesOf;rw [this];rfl
theorem e3:undefOf s2 1 nA = (s3,0):=by
 unfold undefOf
 rw [if_neg (by decide),q1];rfl
theorem q2:FindOf s3 1 nA [] = (Fo.none,3):=by
 have:ordL s3.L 1 = [1,0]:=oA1
 unfold FindOf findOf placesOf;rw [this];rfl
theorem q3:FindOf s3 0 nA [] = (⟨⟨7,0,0,nA⟩,0,-1⟩,0):=by
 have:ordL s3.L 0 = [0]:=oA0
 unfold FindOf findOf placesOf;rw [this];rfl
theorem e4:moduleOf LA = (LB,2,0):=rfl
theorem e5:refineOf s4 2 0 nB 8 = (s5,0):=rfl
theorem q4:FindOf s5 1 nB [2] = (⟨⟨8,0,0,nB⟩,0,2⟩,0):=by
 have:ordL s5.L 1 = [1,0]:=oB1
 unfold FindOf findOf placesOf;rw [this];rfl
theorem Find_nil (o:Bool) {s:Mt} (h:MtOk s) (t:Int) (n:ByteArray):Meets Tryz.prog 13 [dTs o s] (.cons (.ptr 0 [.d]) (.cons (avInt t) (.cons (.val (.string n)) (.cons (.nils 1) .nil))))
  fun av X κ=>av = .tup (.cons (avFo (FindOf s t n []).1) (.cons (avInt (FindOf s t n []).2) .nil))∧X = [dTs o s,.box true () (dFo (FindOf s t n []).1)]∧κ = [] :=
 Meets.nilled (Find_ok o h t n [] true (by simp))
theorem n1L:s1.L = LA:=rfl
theorem n1t:s1.tabs = []:=rfl
theorem n1f:s1.fz = []:=rfl
theorem n2L:s2.L = LA:=rfl
theorem n2f:s2.fz = []:=rfl
theorem n3L:s3.L = LA:=rfl
theorem n3f:s3.fz = []:=rfl
theorem n4L:s4.L = LB:=rfl
theorem n4t:s4.tabs = s3.tabs:=rfl
theorem n4f:s4.fz = []:=rfl
theorem n5L:s5.L = LB:=rfl
theorem n5f:s5.fz = []:=rfl
theorem Find_l (o:Bool) {s:Mt} (h:MtOk s) (t:Int) (n:ByteArray) (act:List Int) (ex:Bool) (ha:act.length≤1000):Meets Tryz.prog 13 [.sl true () 1 (dInts act),dTs o s] (.cons (.ptr 1 [.d]) (.cons (avInt t) (.cons (.val (.string n)) (.cons (.sub 0 [] 0 act.length ex) .nil))))
  fun av X κ=>av = .tup (.cons (avFo (FindOf s t n act).1) (.cons (avInt (FindOf s t n act).2) .nil))∧X = [.junk (),dTs o s,.box true () (dFo (FindOf s t n act).1)]∧κ = [(0,[])]:=by
 have hm:=Find_ok o h t n act ex ha
 refine Meets.mono (Meets.coolL (z:=1) (s:=dInts act) (Y:=[dTs o s]) (by simpa [AV.chilled] using hm) ?_) ?_
 ·rintro av X κ ⟨rfl,_,_⟩;rfl
 ·rintro av X κ ⟨av0,X0,κ0,⟨rfl,rfl,rfl⟩,rfl,rfl,rfl⟩
  exact ⟨rfl,rfl,rfl⟩
theorem sane_ok:Meets Tryz.prog 15 [] .nil fun av X κ=>av = avBool true∧X = []∧κ = []:=by
 have hl0:L0.length≤1000:=by decide
 have hlA:LA.length≤1000:=by decide
 have c1:=class_ok L0 hl0 0
 have c2:=Define_ok m1 0 nA 7 0
 have c3:=Undefine_ok m2 1 nA
 have c4:=Find_nil true m3 1 nA
 have c5:=Find_nil true m3 0 nA
 have c6:=module_ok LA hlA
 have c7:=Refine_ok m4 2 0 nB 8
 have c8:=Find_l true m5 1 nB [2] true (by simp)
 rw [e1] at c1
 rw [e2] at c2
 rw [e3] at c3
 rw [q2] at c4
 rw [q3] at c5
 rw [e4] at c6
 rw [e5] at c7
 rw [q4] at c8
 refine fb Tryz.func15 Tryz.ntmps15 [.tmp 0] fun w0 I0 F0 hF=>?_
 repeat first|refine n1 ?_|((first|refine rg 0 [] [] [] ?_|refine rg 1 [] [1,2] [] ?_);simp (maxSteps:=1000000) [hF])
 refine (new_ok).go [] (by simp (maxSteps:=1000000) [hF]) ?_;rintro av X κ ⟨rfl,rfl,rfl⟩;simp (maxSteps:=1000000) [hF]
 repeat first|refine n1 ?_
 refine (New_ok L0_OK (by decide)).go [(0,[])] (by simp (maxSteps:=1000000) [hF,dL]) ?_;rintro av X κ ⟨rfl,rfl,rfl⟩;simp (maxSteps:=1000000) [hF,dL]
 repeat first|refine n1 ?_|((refine rg 2 [1,2] [1,28] [(2,20),(6,24)] ?_);simp (maxSteps:=1000000) [hF])
 refine (Lineage_ok true ⟨L0,[],[]⟩).go [(1,[])] (by simp (maxSteps:=1000000) [hF,dTs,dL]) ?_;rintro av X κ ⟨rfl,rfl,rfl⟩;simp (maxSteps:=1000000) [hF,dTs,dL]
 repeat first|refine n1 ?_|refine n2 ?_|((first|refine rg 4 [1] [1,3] [] ?_|refine nc ?_);simp (maxSteps:=1000000) [hF])
 refine (Lineage_ok true ⟨L0,[],[]⟩).go [(1,[])] (by simp (maxSteps:=1000000) [hF,dTs,dL]) ?_;rintro av X κ ⟨rfl,rfl,rfl⟩;simp (maxSteps:=1000000) [hF,dTs,dL]
 repeat first|refine n1 ?_
 refine (c1).go [(1,[.d,.f 0])] (by simp (maxSteps:=1000000) [hF,dTs,dL]) ?_;rintro av X κ ⟨rfl,rfl,rfl⟩;simp (maxSteps:=1000000) [hF,dTs,dL]
 repeat first|refine n1 ?_|((refine rg 5 [1,3] [1,3] [] ?_);simp (maxSteps:=1000000) [hF])
 refine (c2).go [(1,[])] (by simp (maxSteps:=1000000) [hF,dTs,dL,n1L,n1t,n1f,n2L,n2f]) ?_;rintro av X κ ⟨rfl,rfl,rfl⟩;simp (maxSteps:=1000000) [hF,dTs,dL,n1L,n1t,n1f,n2L,n2f]
 repeat first|refine n1 ?_|((refine rg 6 [1,3] [1,3] [] ?_);simp (maxSteps:=1000000) [hF])
 refine (c3).go [(1,[])] (by simp (maxSteps:=1000000) [hF,dTs,dL,n2L,n2f,n3L,n3f]) ?_;rintro av X κ ⟨rfl,rfl,rfl⟩;simp (maxSteps:=1000000) [hF,dTs,dL,n2L,n2f,n3L,n3f]
 repeat first|refine n1 ?_|((refine rg 7 [1,3] [1,3,6] [] ?_);simp (maxSteps:=1000000) [hF])
 refine (c4).go [(1,[])] (by simp (maxSteps:=1000000) [hF,dTs,dL,n3L,n3f,dFo,dEnt]) ?_;rintro av X κ ⟨rfl,rfl,rfl⟩;simp (maxSteps:=1000000) [hF,dTs,dL,n3L,n3f,dFo,dEnt]
 repeat first|refine n1 ?_|((refine rg 8 [1,3,6] [1,3,6,7,8] [] ?_);simp (maxSteps:=1000000) [hF])
 refine (c5).go [(1,[])] (by simp (maxSteps:=1000000) [hF,dTs,dL,n3L,n3f,dFo,dEnt]) ?_;rintro av X κ ⟨rfl,rfl,rfl⟩;simp (maxSteps:=1000000) [hF,dTs,dL,n3L,n3f,dFo,dEnt]
 repeat first|refine n1 ?_|((refine rg 9 [1,3,6,7,8] [1,3,6,7,8,9] [] ?_);simp (maxSteps:=1000000) [hF])
 refine (Lineage_ok true s3).go [(1,[])] (by simp (maxSteps:=1000000) [hF,dTs,dL,n3L,n3f]) ?_;rintro av X κ ⟨rfl,rfl,rfl⟩;simp (maxSteps:=1000000) [hF,dTs,dL,n3L,n3f]
 repeat first|refine n1 ?_
 refine (c6).go [(1,[.d,.f 0])] (by simp (maxSteps:=1000000) [hF,dTs,dL]) ?_;rintro av X κ ⟨rfl,rfl,rfl⟩;simp (maxSteps:=1000000) [hF,dTs,dL]
 repeat first|refine n1 ?_|((refine rg 10 [1,3,6,7,8,9] [1,3,6,7,8,9] [] ?_);simp (maxSteps:=1000000) [hF])
 refine (c7).go [(1,[])] (by simp (maxSteps:=1000000) [hF,dTs,dL,n4L,n4t,n4f,n5L,n5f]) ?_;rintro av X κ ⟨rfl,rfl,rfl⟩;simp (maxSteps:=1000000) [hF,dTs,dL,n4L,n4t,n4f,n5L,n5f]
 repeat first|refine n1 ?_|((refine rg 11 [1,3,6,7,8,9] [3,6,7,8,9,11,12] [] ?_);simp (maxSteps:=1000000) [hF])
 refine (c8).go [(6,[]),(1,[])] (by simp (maxSteps:=1000000) [hF,dInts_one,dTs,dL,n5L,n5f,dFo,dEnt]) ?_;rintro av X κ ⟨rfl,rfl,rfl⟩;simp (maxSteps:=1000000) [hF,dInts_one,dTs,dL,n5L,n5f,dFo,dEnt]
 repeat first|refine n1 ?_|((refine rg 12 [3,6,7,8,9,11,12] [0] [(2,70),(6,74),(10,78),(16,84),(20,88),(26,94)] ?_);simp (maxSteps:=1000000) [hF])
 (try refine nr ?_);(repeat first|refine nb_ ?_|refine nl_ ?_);refine endK.o [0] [] [] ?_;simp [hF,retK,covers,mpre]
end Go.Proofs.YtbhigdljojlhnaaGreat

/- The document's lineage, plainly. -/
namespace Go.Proofs.YtbhigdljojlhnaaGreat
set_option linter.all false
open Go.Vc Go.Proofs
def dR (R:List Th):D:=.box true () (.agg (.cons (.val (.bool true)) (.cons (.sl true () 6 (dThs R)) .nil)))
@[simp high] theorem head_dR (R:List Th):isHead (dR R) = true:=by rw [dR,isHead]
theorem nul_eq {x:List Int}:nul x = true↔x = []:=by simp [nul]
theorem nonul_map (g:List Int→List Int) (hg:g [] = []) (ls:List (List Int)) :
  ((ls.filter fun x=>!nul x).map g).filter (fun x=>!nul x) = (ls.map g).filter fun x=>!nul x:=by
 induction ls with
 | nil=>rfl
 | cons x l ih =>
  cases h:nul x with
  | true =>
   have:=nul_eq.1 h
   subst this
   simp only [List.filter_cons,List.map_cons,hg,h]
   exact ih
  | false =>
   simp only [List.filter_cons,List.map_cons,h,Bool.not_false,if_true]
   rw [ih]
theorem mergeF_nonul (f:Nat) (g:List Int→List Int) (hg:g [] = []) (ls:List (List Int)) (out:List Int) :
  mergeF f ((ls.filter fun x=>!nul x).map g) out = mergeF f (ls.map g) out:=by
 cases f with
 | zero=>rfl
 | succ f=>unfold mergeF;rw [nonul_map g hg]
theorem inTails_nonul (ls:List (List Int)) (v:Int):inTails (ls.filter fun x=>!nul x) v = inTails ls v:=by
 unfold inTails
 induction ls with
 | nil=>rfl
 | cons x l ih =>
  cases h:nul x with
  | true =>
   have:=nul_eq.1 h
   subst this
   simp only [List.filter_cons,h,List.any_cons]
   rw [←ih];rfl
  | false=>simp only [List.filter_cons,h,Bool.not_false,if_true,List.any_cons,ih]
theorem find_nonul (ls:List (List Int)) (p:List Int→Bool):(ls.filter fun x=>!nul x).find? p = ls.find? fun x=>!nul x && p x:=by
 induction ls with
 | nil=>rfl
 | cons x l ih =>
  cases h:nul x with
  | true=>simp only [List.filter_cons,h,List.find?_cons];exact ih
  | false =>
   simp only [List.filter_cons,h,Bool.not_false,if_true,List.find?_cons,Bool.true_and]
   rw [ih]
theorem dropHd_nil (v:Int):dropHd v [] = []:=by unfold dropHd;split <;> rfl
def fit (ls:List (List Int)) (x:List Int):Bool:=!nul x && !inTails ls (hd x)
theorem mergeF_round (f:Nat) (ls:List (List Int)) (out:List Int):mergeF (f + 1) ls out =
  if ls.any (fun x=>!nul x) = false then some out else match ls.find? (fit ls) with
   | none=>none
   | some x=>mergeF f (ls.map (dropHd (hd x))) (out ++ [hd x]):=by
 have h1:((ls.filter fun x=>!nul x) = [])↔ls.any (fun x=>!nul x) = false:=by
  rw [List.filter_eq_nil_iff];simp
 have h2:(fun x=>!inTails (ls.filter fun x=>!nul x) (hd x)) = fun x=>!inTails ls (hd x):=by funext x;rw [inTails_nonul]
 rw [mergeF,h2,find_nonul]
 by_cases h:ls.any (fun x=>!nul x) = false
 ·rw [if_pos h,if_pos (h1.2 h)]
 ·rw [if_neg h,if_neg fun e=>h (h1.1 e)]
  show _ = match ls.find? (fun x=>!nul x && !inTails ls (hd x)) with
   | none=>none
   | some x=>mergeF f (ls.map (dropHd (hd x))) (out ++ [hd x])
  cases ls.find? (fun x=>!nul x && !inTails ls (hd x)) with
  | none=>rfl
  | some x=>exact mergeF_nonul f _ (dropHd_nil _) ls _
def withoutF (l out:List Int):List Int:=l.filter fun x=>!hasN out x
theorem hasN_one (v x:Int):hasN [v] x = decide (v = x):=by simp [hasN]
theorem without_drop {v:Int} {y:List Int} (h:v∉y.tail):withoutF y [v] = dropHd v y:=by
 have hall:∀ l:List Int,v∉l→withoutF l [v] = l:=fun l hl=>by
  unfold withoutF
  rw [List.filter_eq_self]
  intro x hx
  rw [hasN_one]
  have:¬ v = x:=fun e=>hl (e ▸ hx)
  simp [this]
 cases y with
 | nil=>rw [dropHd_nil];rfl
 | cons a l =>
  simp only [List.tail_cons] at h
  have hl:=hall l h
  have hd1:dropHd v (a :: l) = if a = v then l else a :: l:=rfl
  rw [hd1]
  unfold withoutF at hl ⊢
  by_cases e:a = v
  ·rw [if_pos e,List.filter_cons,hasN_one,hl];simp [e]
  ·rw [if_neg e,List.filter_cons,hasN_one,hl];simp [Ne.symm e]
theorem without_round {ls:List (List Int)} {x:List Int} (h:ls.find? (fit ls) = some x):ls.map (fun y=>withoutF y [hd x]) = ls.map (dropHd (hd x)):=by
 have hf:=List.find?_some h
 simp only [fit,Bool.and_eq_true,Bool.not_eq_true'] at hf
 refine List.map_congr_left fun y hy=>without_drop ?_
 intro hm
 have:inTails ls (hd x) = true:=List.any_eq_true.2 ⟨y,hy,hasN_iff.2 hm⟩
 rw [hf.2] at this;cases this
def pref {α:Type} (f:α→α) (l:List α) (k:Nat):List α:=(l.take k).map f ++ l.drop k
@[simp] theorem pref_zero {α:Type} (f:α→α) (l:List α):pref f l 0 = l:=by simp [pref]
@[simp] theorem pref_all {α:Type} (f:α→α) (l:List α):pref f l l.length = l.map f:=by simp [pref]
theorem pref_len {α:Type} (f:α→α) (l:List α) (k:Nat):(pref f l k).length = l.length:=by simp [pref];omega
theorem pref_at {α:Type} (f:α→α) (l:List α) (k:Nat) (h:k < l.length):(pref f l k)[k]'(by rw [pref_len];exact h) = l[k]:=by
 unfold pref
 rw [List.getElem_append_right (by simp;omega)]
 simp [Nat.min_eq_left (Nat.le_of_lt h)]
theorem pref_set {α:Type} (f:α→α) (l:List α) (k:Nat) (h:k < l.length):(pref f l k).set k (f l[k]) = pref f l (k + 1):=by
 unfold pref
 have hk:((l.take k).map f).length = k:=by simp;omega
 rw [List.set_append,if_neg (by omega),hk,Nat.sub_self,List.drop_eq_getElem_cons h,List.set_cons_zero,List.take_succ_eq_append_getElem h,List.map_append,List.append_assoc]
 rfl
theorem find_mem_hd {ls:List (List Int)} {x:List Int} (h:ls.find? (fit ls) = some x):x∈ls∧0 < x.length:=by
 have hf:=List.find?_some h
 simp only [fit,Bool.and_eq_true,Bool.not_eq_true'] at hf
 refine ⟨List.mem_of_find?_eq_some h,?_⟩
 cases x with
 | nil=>simp [nul] at hf
 | cons a l=>simp
theorem take_find_of {p:List Int→Bool} {l:List (List Int)} {i:Nat} {x:List Int} (h:(l.take i).find? p = some x):l.find? p = some x:=by
 have:l = l.take i ++ l.drop i:=(List.take_append_drop i l).symm
 rw [this,List.find?_append,h];rfl
end Go.Proofs.YtbhigdljojlhnaaGreat

/- The document's lineage: what it asks first. -/
namespace Go.Proofs.YtbhigdljojlhnaaGreat
set_option linter.all false
open Go.Vc Go.Proofs
set_option linter.unusedSimpArgs false
set_option linter.unusedVariables false
set_option maxRecDepth 100000
set_option maxHeartbeats 4000000
attribute [local irreducible] CallW EqK
theorem rnew_ok:Meets Tryz.prog 72 [] .nil fun av X κ=>av = .ptr 0 [.d]∧X = [dR L0]∧κ = []:=by
 refine fb Tryz.func72 Tryz.ntmps72 [.tmp 0] fun w0 I0 F0 hF=>?_
 repeat first|refine n1 ?_|((first|refine rg 0 [] [] [] ?_|refine rg 1 [] [0] [] ?_);simp (maxSteps:=1000000) [hF])
 refine VS.cold 1 [.d,.f 1,.i 0,.f 4] (by simp (maxSteps:=1000000) [hF,T.freeze]) (by simp (maxSteps:=1000000) [hF,T.freeze]) (by simp (maxSteps:=1000000) [hF,T.freeze]) ?_;simp [hF,St.cold,T.freeze]
 refine VS.cold 1 [.d,.f 1,.i 0,.f 5] (by simp (maxSteps:=1000000) [hF,T.freeze]) (by simp (maxSteps:=1000000) [hF,T.freeze]) (by simp (maxSteps:=1000000) [hF,T.freeze]) ?_;simp [hF,St.cold,T.freeze]
 (try refine nr ?_);(repeat first|refine nb_ ?_|refine nl_ ?_);refine endK.o [0] [1] [] ?_;simp [hF,retK,covers,mpre,dR,dThs,L0,dTh,sq,dInts]
theorem No_ok (R:List Th):Meets Tryz.prog 28 [dR R] (.cons (.ptr 0 [.d]) .nil) fun av X κ=>av = avBool false∧X = [dR R]∧κ = []:=by
 refine fb Tryz.func28 Tryz.ntmps28 [.tmp 2] fun w0 I0 F0 hF=>?_
 repeat first|refine n1 ?_|((first|refine rg 0 [0] [0] [] ?_|refine rg 1 [0] [2] [(2,5)] ?_);simp (maxSteps:=1000000) [hF,dR])
 (try refine nr ?_);(repeat first|refine nb_ ?_|refine nl_ ?_);refine endK.o [2] [0] [] ?_;simp [hF,retK,covers,mpre,dR]
theorem rLen_ok (R:List Th):Meets Tryz.prog 10 [dR R] (.cons (.ptr 0 [.d]) .nil) fun av X κ=>av = avInt R.length∧X = [dR R]∧κ = []:=by
 refine fb Tryz.func10 Tryz.ntmps10 [.tmp 2] fun w0 I0 F0 hF=>?_
 repeat first|refine n1 ?_|((first|refine rg 0 [0] [0] [] ?_|refine rg 1 [0] [0,4] [] ?_);simp (maxSteps:=1000000) [hF])
 refine (No_ok R).go [(0,[])] (by simp (maxSteps:=1000000) [hF,dR]) ?_;rintro av X κ ⟨rfl,rfl,rfl⟩;simp (maxSteps:=1000000) [hF,dR]
 repeat first|refine n1 ?_|refine n2 ?_|((first|refine rg 3 [0] [2] [] ?_|refine nc ?_);simp (maxSteps:=1000000) [hF,dR])
 (try refine nr ?_);(repeat first|refine nb_ ?_|refine nl_ ?_);refine endK.o [2] [0] [] ?_;simp [hF,retK,covers,mpre,dR]
theorem There_ok (R:List Th) (t:Int):Meets Tryz.prog 104 [dR R] (.cons (.ptr 0 [.d]) (.cons (avInt t) .nil)) fun av X κ=>av = avBool (val R t)∧X = [dR R]∧κ = []:=by
 refine fb Tryz.func104 Tryz.ntmps104 [.tmp 4] fun w0 I0 F0 hF=>?_
 repeat first|refine n1 ?_|((first|refine rg 0 [0,1] [0,1] [] ?_|refine rg 1 [0,1] [4] [(3,8),(7,12)] ?_);simp (maxSteps:=1000000) [hF])
 by_cases h1:0≤t
 ·by_cases h2:t < R.length
  ·refine (No_ok R).go [(0,[])] (by simp (maxSteps:=1000000) [hF,dR,h1,h2]) ?_;rintro av X κ ⟨rfl,rfl,rfl⟩;simp (maxSteps:=1000000) [hF,dR,h1,h2]
   repeat first|refine n1 ?_
   (try refine nr ?_);(repeat first|refine nb_ ?_|refine nl_ ?_);refine endK.o [4] [0] [] ?_;simp [hF,retK,covers,mpre,dR,val,h1,h2]
  ·refine (No_ok R).go [(0,[])] (by simp (maxSteps:=1000000) [hF,dR,h1,h2]) ?_;rintro av X κ ⟨rfl,rfl,rfl⟩;simp (maxSteps:=1000000) [hF,dR,h1,h2]
   repeat first|refine n1 ?_
   (try refine nr ?_);(repeat first|refine nb_ ?_|refine nl_ ?_);refine endK.o [4] [0] [] ?_;simp [hF,retK,covers,mpre,dR,val,h1,h2]
 ·refine (No_ok R).go [(0,[])] (by simp (maxSteps:=1000000) [hF,dR,h1]) ?_;rintro av X κ ⟨rfl,rfl,rfl⟩;simp (maxSteps:=1000000) [hF,dR,h1]
  repeat first|refine n1 ?_
  (try refine nr ?_);(repeat first|refine nb_ ?_|refine nl_ ?_);refine endK.o [4] [0] [] ?_;simp [hF,retK,covers,mpre,dR,val,h1]
theorem hasN_at {l:List Int} {v:Int} {i:Nat} (hi:i < l.length) (h:l[i] = v):hasN l v = true:=hasN_iff.2 (h ▸ List.getElem_mem hi)
theorem hasN_out {l:List Int} {v:Int} (h:∀ j,(hj:j < l.length)→l[j]≠v):hasN l v = false:=by
 cases hb:hasN l v with
 | false=>rfl
 | true =>
  obtain ⟨j,hj,e⟩:=List.getElem_of_mem (hasN_iff.1 hb)
  exact absurd e (h j hj)
theorem Has_ok (ex:Bool) (l:List Int) (v:Int) (hl:l.length≤100000000):Meets Tryz.prog 126 [] (.cons (.imm 1 (dInts l) ex) (.cons (avInt v) .nil))
  fun av X κ=>av = avBool (hasN l v)∧X = []∧κ = []:=by
 refine fb Tryz.func126 Tryz.ntmps126 [.tmp 4] fun w0 I0 F0 hF=>?_
 repeat first|refine n1 ?_|refine n3 ?_|((first|refine rg 0 [0,1] [0,1] [] ?_|refine rg 1 [0,1] [0,1,5] [] ?_);simp (maxSteps:=1000000) [hF])
 refine VS.rounds (fun m st=>∃ (i:Nat),i + m = l.length∧(∀ j,(hj:j < i)→(h:j < l.length)→l[j]≠v)∧st = ⟨[(0,.imm 1 (dInts l) ex),(1,avInt v),(5,avInt i)],[],[],[]⟩) ⟨l.length,0,by omega,fun j hj=>by omega,by simp⟩ ?_
 rintro m st ⟨i,hi,hall,rfl⟩
 repeat first|refine n1 ?_|((first|refine rg 2 [0,1,5] [0,1,5,9] [] ?_|refine nc ?_);simp (maxSteps:=1000000) [hF])
 refine ⟨fun hlt=>?_,fun hge=>?_⟩
 ·have hil:i < l.length:=by omega
  have hn:=dInts_nth hil
  by_cases he:l[i] = v
  ·have hh:=hasN_at hil he
   repeat first|refine n1 ?_|refine n2 ?_|refine n3 ?_|((first|refine rg 4 [0,1,5] [0,1,5,17] [] ?_|refine rg 5 [] [4] [] ?_|refine nc ?_);simp (maxSteps:=1000000) [hF,hn,hil,he])
   (try refine nr ?_);(repeat first|refine nb_ ?_|refine nl_ ?_);refine endK.o [4] [] [] ?_;simp [hF,retK,covers,mpre,hh]
  ·repeat first|refine n1 ?_|refine n2 ?_|refine n3 ?_|refine n4 ?_|refine n5 ?_|refine n6 ?_|((first|refine rg 3 [0,1,5] [0,1,5] [] ?_|refine rg 4 [0,1,5] [0,1,5,17] [] ?_|refine nc ?_);simp (maxSteps:=1000000) [hF,hn,hil,he])
   refine nextK.of [0,1,5] [] (m - 1) (by omega) (by simp [hF]) ?_
   refine ⟨i + 1,by omega,fun j hj h=>?_,?_⟩
   ·by_cases hji:j = i
    ·subst hji;exact he
    ·exact hall j (by omega) h
   ·simp
    exact IntWalk.i64_in _ (by omega)
 ·have hh:hasN l v = false:=hasN_out fun j hj=>hall j (by omega) hj
  repeat first|refine n1 ?_|refine n7 ?_|((refine rg 6 [] [4] [] ?_);simp (maxSteps:=1000000) [hF])
  (try refine nr ?_);(repeat first|refine nb_ ?_|refine nl_ ?_);refine endK.o [4] [] [] ?_;simp [hF,retK,covers,mpre,hh]
theorem filter_take {p:Int→Bool} {l:List Int} {i:Nat} (h:i < l.length):(l.take (i + 1)).filter p = (l.take i).filter p ++ if p l[i] then [l[i]] else []:=by
 rw [List.take_succ_eq_append_getElem h,List.filter_append]
 cases h:p l[i] <;> simp [h]
theorem without_ok (ex ex2:Bool) (l out:List Int) (hl:l.length≤100000000) (ho:out.length≤100000000):Meets Tryz.prog 150 [] (.cons (.imm 1 (dInts l) ex) (.cons (.imm 1 (dInts out) ex2) .nil))
  fun av X κ=>av = .sub 0 [] 0 (withoutF l out).length false∧X = [.sl true () 1 (dInts (withoutF l out))]∧κ = []:=by
 refine fb Tryz.func150 Tryz.ntmps150 [.tmp 4] fun w0 I0 F0 hF=>?_
 repeat first|refine n1 ?_|refine n3 ?_|((first|refine rg 0 [0,1] [0,1] [] ?_|refine rg 1 [0,1] [0,1,5] [] ?_|refine rg 2 [0,1,5] [0,1,5,6] [] ?_);simp (maxSteps:=1000000) [hF])
 refine VS.hold0 5 1 (by simp) ?_
 refine VS.pick [0,1,5,6] [0] (by simp [hF]) ?_;simp [hF]
 refine VS.rounds (fun m st=>∃ (i:Nat) (r:List Int),i + m = l.length∧r = withoutF (l.take i) out∧st = ⟨[(0,.imm 1 (dInts l) ex),(1,.imm 1 (dInts out) ex2),(5,.sub 0 [] 0 r.length false),(6,avInt i)],[.sl true () 1 (dInts r)],[],[]⟩) ⟨l.length,0,[],by omega,rfl,by simp⟩ ?_
 rintro m st ⟨i,r,hi,hr,rfl⟩
 repeat first|refine n1 ?_|((first|refine rg 3 [0,1,5,6] [0,1,5,6,10] [] ?_|refine nc ?_);simp (maxSteps:=1000000) [hF])
 refine ⟨fun hlt=>?_,fun hge=>?_⟩
 ·have hil:i < l.length:=by omega
  have hn:=dInts_nth hil
  have hrl:r.length≤l.length:=by
   rw [hr];exact Nat.le_trans (List.length_filter_le _ _) (by rw [List.length_take];omega)
  have hft:=filter_take (p:=fun x=>!hasN out x) hil
  have happ:=dInts_app1 r l[i]
  have b1:(r.length + 1) * 8≤140737488355328:=by omega
  have b2:r.length + 1≤9223372036854775807:=by omega
  have hmid:=dInts_mid_all (r ++ [l[i]])
  repeat first|refine n1 ?_|refine n2 ?_|refine n3 ?_|((refine rg 5 [0,1,5,6] [0,1,5,6,19] [] ?_);simp (maxSteps:=1000000) [hF,hn,hil])
  refine (Has_ok ex2 out l[i] ho).go [] (by simp (maxSteps:=1000000) [hF,hn,hil]) ?_;rintro av X κ ⟨rfl,rfl,rfl⟩;simp (maxSteps:=1000000) [hF,hn,hil]
  cases hh:hasN out l[i] with
  | true =>
   repeat first|refine n2 ?_|refine n4 ?_|refine n5 ?_|refine n6 ?_|((first|refine rg 4 [0,1,5,6] [0,1,5,6] [] ?_|refine nc ?_);simp (maxSteps:=1000000) [hF,hh])
   refine nextK.of [0,1,5,6] [0] (m - 1) (by omega) (by simp [hF]) ?_
   refine ⟨i + 1,r,by omega,?_,?_⟩
   ·rw [hr];unfold withoutF;rw [hft,hh];simp
   ·simp
    exact IntWalk.i64_in _ (by omega)
  | false =>
   repeat first|refine n4 ?_|refine n5 ?_|refine n6 ?_|((first|refine rg 4 [0,1,5,6] [0,1,5,6] [] ?_|refine rg 6 [0,1,5,6] [0,1,5,6] [] ?_|refine nc ?_);simp (maxSteps:=1000000) [hF,hh,hn,hil,happ,b1,b2])
   refine nextK.of [0,1,5,6] [0] (m - 1) (by omega) (by simp [hF]) ?_
   refine ⟨i + 1,r ++ [l[i]],by omega,?_,?_⟩
   ·rw [hr];unfold withoutF;rw [hft,hh];simp
   ·simp
    exact IntWalk.i64_in _ (by omega)
 ·obtain rfl:i = l.length:=by omega
  rw [List.take_length] at hr
  subst hr
  repeat first|refine n1 ?_|refine n7 ?_|((refine rg 7 [5] [4] [] ?_);simp (maxSteps:=1000000) [hF])
  (try refine nr ?_);(repeat first|refine nb_ ?_|refine nl_ ?_);refine endK.o [4] [0] [] ?_;simp [hF,retK,covers,mpre]
theorem radd_ok (L:List Th) (hl:L.length≤5000) (k s o w:Int):Meets Tryz.prog 105 [dR L] (.cons (.ptr 0 [.d]) (.cons (avNew k s o w) .nil))
  fun av X κ=>av = avInt L.length∧X = [dR (L ++ [⟨k,s,o,w,[],[]⟩])]∧κ = [(0,[.d])]:=by
 have hpush:=dThs_push L ⟨k,s,o,w,[],[]⟩
 simp only [dInts_nil] at hpush
 have hmid:(dThs (L ++ [⟨k,s,o,w,[],[]⟩])).mid 0 (L.length + 1) = dThs (L ++ [⟨k,s,o,w,[],[]⟩]):=sq_mid_all _ _ (by simp)
 have hw:IntKind.i64.wrap (L.length:Int) = L.length:=IntWalk.i64_in _ (by omega)
 have hw2:IntKind.i64.wrap (((L.length + 1:Nat):Int) - 1) = L.length:=by
  have:(((L.length + 1:Nat):Int) - 1) = L.length:=by omega
  rw [this];exact hw
 have b1:(L.length + 1) * 80≤140737488355328:=by omega
 have b2:L.length + 1≤9223372036854775807:=by omega
 refine fb Tryz.func105 Tryz.ntmps105 [.tmp 4] fun w0 I0 F0 hF=>?_
 repeat first|refine n1 ?_
 refine VS.chill 1 ?_;simp [hF,St.chill]
 repeat first|refine n1 ?_|((refine rg 0 [0,1] [0,3] [] ?_);simp (maxSteps:=1000000) [hF])
 refine ghostL 0 [.d,.f 1] ?_;simp (maxSteps:=1000000) [hF,St.lift,AV.lift,liftPl,stripP,nodeAV,isNode,dR]
 repeat first|refine n1 ?_|((first|(refine dr 1 0 [0,3] [0] [] [⟨0,1,32,5⟩,⟨0,1,64,5⟩,⟨2,64,128,5⟩,⟨4,128,256,5⟩,⟨8,256,512,6⟩,⟨0,8,1024,6⟩,⟨32,1024,2048,4⟩,⟨80,2560,4096,0⟩,⟨255,32,8192,5⟩,⟨511,8192,16384,5⟩,⟨767,20480,0,0⟩] (.take 0 (.take 1 (.take 2 (.take 3 (.take 4 (.take 5 (.fork (.alt 6 (.fork (.alt 7 (.take 8 (.take 9 (.fork (.alt 10 (.done) (.nil))))) (.nil))) (.nil))))))))) (.run [0,1,2,3,4,5,6,7,8,9,10] (.done)) ?_;simp only [drs])|refine rg 2 [0] [4] [] ?_);simp (maxSteps:=1000000) [hF,hpush,hmid,b1,b2,hw,hw2])
 (try refine nr ?_);(repeat first|refine nb_ ?_|refine nl_ ?_);refine endK.o [4] [0] [(0,[.d])] ?_;simp [hF,retK,covers,mpre,dR]
theorem rClass_ok (L:List Th) (hl:L.length≤1000) (s:Int):Meets Tryz.prog 60 [dR L] (.cons (.ptr 0 [.d]) (.cons (avInt s) .nil))
  fun av X κ=>av = two (classOf L s).2∧X = [dR (classOf L s).1]∧κ = [(0,[.d])]:=by
 refine fb Tryz.func60 Tryz.ntmps60 [.tmp 4,.tmp 5] fun w0 I0 F0 hF=>?_
 repeat first|refine n1 ?_|((first|refine rg 0 [0,1] [0,1] [] ?_|refine rg 1 [0,1] [0,1,20] [(4,10)] ?_);simp (maxSteps:=1000000) [hF])
 cases hv:val L s with
 | false =>
  have hc:classOf L s = (L,0,1):=by unfold classOf;rw [hv];rfl
  refine (There_ok L s).go [(0,[])] (by simp (maxSteps:=1000000) [hF,dR,hv]) ?_;rintro av X κ ⟨rfl,rfl,rfl⟩;simp (maxSteps:=1000000) [hF,dR,hv]
  repeat first|refine n1 ?_|((first|refine rg 2 [] [4,5] [] ?_|refine nc ?_);simp (maxSteps:=1000000) [hF])
  (try refine nr ?_);(repeat first|refine nb_ ?_|refine nl_ ?_);refine endK.o [4,5] [0] [(0,[.d])] ?_;simp [hF,retK,covers,mpre,dR,hc]
 | true =>
  obtain ⟨s,rfl,hs⟩:=val_nat hv
  have hn:=dThs_nth hs
  have hth:=thAt_eq hs
  by_cases hk:L[s].kind = 0
  ·refine (There_ok L s).go [(0,[])] (by simp (maxSteps:=1000000) [hF,dR,hv,hn,hs,hk]) ?_;rintro av X κ ⟨rfl,rfl,rfl⟩;simp (maxSteps:=1000000) [hF,dR,hv,hn,hs,hk]
   by_cases hf:1000 < L.length + 1
   ·have hc:classOf L s = (L,0,9):=by unfold classOf;rw [hv,hth,hk,if_neg (by simp),if_pos hf]
    have hf2:(1000:Int)≤L.length:=by omega
    repeat first|refine n1 ?_|refine n2 ?_|((first|refine rg 3 [0,1] [0,1,26] [] ?_|refine rg 4 [] [4,5] [] ?_|refine nc ?_);simp (maxSteps:=1000000) [hF,hf2])
    (try refine nr ?_);(repeat first|refine nb_ ?_|refine nl_ ?_);refine endK.o [4,5] [0] [(0,[.d])] ?_;simp [hF,retK,covers,mpre,dR,hc]
   ·have hc:classOf L s = (L ++ [newTh 0 s (-1)],(L.length:Int),0):=by unfold classOf;rw [hv,hth,hk,if_neg (by simp),if_neg hf]
    have hf2:¬ (1000:Int)≤L.length:=by omega
    repeat first|refine n1 ?_|refine n2 ?_|((first|refine rg 3 [0,1] [0,1,26] [] ?_|refine rg 5 [0,1] [4,5] [] ?_|refine nc ?_);simp (maxSteps:=1000000) [hF,hf2])
    refine (radd_ok L (by omega) 0 s (-1) (-1)).go [(0,[])] (by simp (maxSteps:=1000000) [hF,dR]) ?_;rintro av X κ ⟨rfl,rfl,rfl⟩;simp (maxSteps:=1000000) [hF,dR]
    repeat first|refine n1 ?_
    (try refine nr ?_);(repeat first|refine nb_ ?_|refine nl_ ?_);refine endK.o [4,5] [0] [(0,[.d])] ?_;simp [hF,retK,covers,mpre,dR,hc,newTh]
  ·have hc:classOf L s = (L,0,1):=by unfold classOf;rw [hv,hth,if_pos (by simp [hk])]
   refine (There_ok L s).go [(0,[])] (by simp (maxSteps:=1000000) [hF,dR,hv,hn,hs,hk]) ?_;rintro av X κ ⟨rfl,rfl,rfl⟩;simp (maxSteps:=1000000) [hF,dR,hv,hn,hs,hk]
   repeat first|refine n1 ?_|((first|refine rg 2 [] [4,5] [] ?_|refine nc ?_);simp (maxSteps:=1000000) [hF])
   (try refine nr ?_);(repeat first|refine nb_ ?_|refine nl_ ?_);refine endK.o [4,5] [0] [(0,[.d])] ?_;simp [hF,retK,covers,mpre,dR,hc]
theorem rModule_ok (L:List Th) (hl:L.length≤1000) (hp:0 < L.length):Meets Tryz.prog 61 [dR L] (.cons (.ptr 0 [.d]) .nil)
  fun av X κ=>av = two (moduleOf L).2∧X = [dR (moduleOf L).1]∧κ = [(0,[.d])]:=by
 have h0:¬ L.length = 0:=by omega
 refine fb Tryz.func61 Tryz.ntmps61 [.tmp 2,.tmp 3] fun w0 I0 F0 hF=>?_
 repeat first|refine n1 ?_|((first|refine rg 0 [0] [0] [] ?_|refine rg 1 [0] [0,5] [] ?_);simp (maxSteps:=1000000) [hF])
 refine (No_ok L).go [(0,[])] (by simp (maxSteps:=1000000) [hF,dR]) ?_;rintro av X κ ⟨rfl,rfl,rfl⟩;simp (maxSteps:=1000000) [hF,dR]
 by_cases hf:1000 < L.length + 1
 ·have hc:moduleOf L = (L,0,9):=by unfold moduleOf;rw [if_neg h0,if_pos hf]
  have hf2:(1000:Int)≤L.length:=by omega
  repeat first|refine n1 ?_|refine n2 ?_|((first|refine rg 3 [0] [0,11] [] ?_|refine rg 4 [] [2,3] [] ?_|refine nc ?_);simp (maxSteps:=1000000) [hF,dR,hf2])
  (try refine nr ?_);(repeat first|refine nb_ ?_|refine nl_ ?_);refine endK.o [2,3] [0] [(0,[.d])] ?_;simp [hF,retK,covers,mpre,dR,hc]
 ·have hc:moduleOf L = (L ++ [newTh 1 (-1) (-1)],(L.length:Int),0):=by unfold moduleOf;rw [if_neg h0,if_neg hf]
  have hf2:¬ (1000:Int)≤L.length:=by omega
  repeat first|refine n1 ?_|refine n2 ?_|((first|refine rg 3 [0] [0,11] [] ?_|refine rg 5 [0] [2,3] [] ?_|refine nc ?_);simp (maxSteps:=1000000) [hF,dR,hf2])
  refine (radd_ok L (by omega) 1 (-1) (-1) (-1)).go [(0,[])] (by simp (maxSteps:=1000000) [hF,dR]) ?_;rintro av X κ ⟨rfl,rfl,rfl⟩;simp (maxSteps:=1000000) [hF,dR]
  repeat first|refine n1 ?_
  (try refine nr ?_);(repeat first|refine nb_ ?_|refine nl_ ?_);refine endK.o [2,3] [0] [(0,[.d])] ?_;simp [hF,retK,covers,mpre,dR,hc,newTh]
def dLsX (l:List (List Int)) (o:List Int):D:=(dLs l).app (.cons (.sl true () 1 (dInts o)) .nil)
theorem dLsX_eq (l:List (List Int)) (o:List Int):(dLs l).app (.cons (.sl true () 1 (dInts o)) .nil) = dLsX l o:=rfl
theorem dLsX_sq (l:List (List Int)) (o:List Int):dLsX l o = sq ((l.map fun o=>.sl false () 1 (dInts o)) ++ [.sl true () 1 (dInts o)]):=by rw [←sq_app];rfl
@[simp] theorem dLsX_len (l:List (List Int)) (o:List Int):(dLsX l o).len = l.length + 1:=by rw [dLsX_sq];simp
@[simp] theorem dLsX_nth (l:List (List Int)) (o:List Int):(dLsX l o).nth l.length = .sl true () 1 (dInts o):=by
 rw [dLsX_sq,sq_nth_lt (by simp)];simp
@[simp] theorem dLsX_set (l:List (List Int)) (o:List Int):(dLsX l o).setN l.length (.sl false () 1 (dInts o)) = dLs (l ++ [o]):=by
 rw [dLsX_sq,sq_setN,List.set_append];simp [dLs]
@[simp] theorem dLsX_mid (l:List (List Int)) (o:List Int):(dLsX l o).mid 0 (l.length + 1) = dLsX l o:=by rw [dLsX_sq];exact sq_mid_all _ _ (by simp)
def dLsS (l:List (List Int)) (k:Nat) (o:List Int):D:=(dLs l).setN k (.sl true () 1 (dInts o))
theorem dLsS_eq (l:List (List Int)) (k:Nat) (o:List Int):(dLs l).setN k (.sl true () 1 (dInts o)) = dLsS l k o:=rfl
@[simp] theorem dLsS_len (l:List (List Int)) (k:Nat) (o:List Int):(dLsS l k o).len = l.length:=by rw [dLsS,T.len_setN,dLs_len]
theorem dLsS_nth {l:List (List Int)} {k:Nat} (h:k < l.length) (o:List Int):(dLsS l k o).nth k = .sl true () 1 (dInts o):=by
 rw [dLsS,T.nth_setN_same _ (by simpa using h)]
theorem dLsS_set (l:List (List Int)) (k:Nat) (o:List Int):(dLsS l k o).setN k (.sl false () 1 (dInts o)) = dLs (l.set k o):=by rw [dLsS,setN_setN,dLs_set]
theorem without_l (ex:Bool) (l:List Int) (v:Int) (hl:l.length≤100000000):Meets Tryz.prog 150 [.sl true () 1 (dInts [v])] (.cons (.imm 1 (dInts l) ex) (.cons (.sub 0 [] 0 1 true) .nil))
  fun av X κ=>av = .sub 1 [] 0 (withoutF l [v]).length false∧X = [.junk (),.sl true () 1 (dInts (withoutF l [v]))]∧κ = [(0,[])]:=by
 have hm:=without_ok ex true l [v] hl (by simp)
 refine Meets.mono (Meets.coolL (z:=1) (s:=dInts [v]) (Y:=[]) (by simpa [AV.chilled,show (dInts [v]).mid 0 1 = dInts [v] from dInts_mid_all [v]] using hm) ?_) ?_
 ·rintro av X κ ⟨rfl,_,_⟩;rfl
 ·rintro av X κ ⟨av0,X0,κ0,⟨rfl,rfl,rfl⟩,rfl,rfl,rfl⟩
  exact ⟨rfl,rfl,rfl⟩
theorem take_any {p:List Int→Bool} {l:List (List Int)} {i:Nat} (h:i < l.length):(l.take (i + 1)).any p = ((l.take i).any p || p l[i]):=by
 rw [List.take_succ_eq_append_getElem h,List.any_append];simp
theorem take_find {p:List Int→Bool} {l:List (List Int)} {i:Nat} (h:i < l.length) (hn:(l.take i).find? p = none):(l.take (i + 1)).find? p = if p l[i] then some l[i] else none:=by
 rw [List.take_succ_eq_append_getElem h,List.find?_append,hn]
 cases hp:p l[i] <;> simp [hp]
theorem Merge_ok (ls:List (List Int)) (hl:ls.length≤10000) (ht:total ls≤100000000) (h0:∀ y∈ls,∀ v∈y,0≤v):Meets Tryz.prog 149 [.sl true () 1 (dLs ls)] (.cons (.sub 0 [] 0 ls.length false) .nil)
  fun av X κ=>match mergeOf ls with
   | some o=>av = .tup (.cons (.sub 1 [] 0 o.length false) (.cons (avBool true) .nil))∧X = [.sl true () 1 (dLs ls),.sl true () 1 (dInts o)]∧κ = []
   | none=>av = .tup (.cons (.nils 1) (.cons (avBool false) .nil))∧X = [.sl true () 1 (dLs ls)]∧κ = []:=by
 refine fb Tryz.func149 Tryz.ntmps149 [.tmp 2,.tmp 3] fun w0 I0 F0 hF=>?_
 repeat first|refine n1 ?_|refine n3 ?_|((first|refine rg 0 [0] [0] [] ?_|refine rg 1 [0] [0,4] [] ?_|refine rg 2 [0,4] [0,4,5] [] ?_);simp (maxSteps:=1000000) [hF])
 refine VS.hold0 4 1 (by simp) ?_
 refine VS.pick [0,4,5] [0,1] (by simp [hF]) ?_;simp [hF]
 refine VS.rounds (fun m st=>∃ (i:Nat) (acc:List (List Int)),i + m = ls.length∧acc = ls.take i∧st = ⟨[(0,.sub 0 [] 0 ls.length false),(4,.sub 1 [] 0 i false),(5,avInt i)],[.sl true () 1 (dLs ls),.sl true () 1 (dLs acc)],[],[]⟩) ⟨ls.length,0,[],by omega,rfl,by simp⟩ ?_
 rintro m st ⟨i,acc,hi,hacc,rfl⟩
 repeat first|refine n1 ?_|((first|refine rg 3 [0,4,5] [0,4,5,17] [] ?_|refine nc ?_);simp (maxSteps:=1000000) [hF])
 refine ⟨fun hlt=>?_,fun hge=>?_⟩
 ·have hil:i < ls.length:=by omega
  have hn:=dLs_nth hil
  have hyl:=total_mem (List.getElem_mem hil)
  have hai:acc.length = i:=by rw [hacc,List.length_take];omega
  have happ:=dLsX_eq acc ls[i]
  have b0:ls[i].length * 8≤140737488355328:=by omega
  have b3:ls[i].length≤9223372036854775807:=by omega
  have b1:(acc.length + 1) * 24≤140737488355328:=by omega
  have b2:acc.length + 1≤9223372036854775807:=by omega
  subst hai
  repeat first|refine n1 ?_|refine n2 ?_|refine n3 ?_|refine n4 ?_|refine n5 ?_|((refine rg 5 [0,4,5] [0,4,5] [] ?_);simp (maxSteps:=1000000) [hF,hn,hil,happ,b0,b3,b1,b2])
  refine VS.cold 1 [.i acc.length] (by simp (maxSteps:=1000000) [hF,T.freeze]) (by simp (maxSteps:=1000000) [hF,T.freeze]) (by simp (maxSteps:=1000000) [hF,T.freeze]) ?_;simp [hF,St.cold,T.freeze]
  refine VS.pick [0,4,5] [0,1] (by simp [hF]) ?_;simp [hF]
  repeat first|refine n4 ?_|refine n6 ?_|((refine rg 4 [0,4,5] [0,4,5] [] ?_);simp (maxSteps:=1000000) [hF])
  refine nextK.of [0,4,5] [0,1] (m - 1) (by omega) (by simp [hF]) ?_
  refine ⟨acc.length + 1,acc ++ [ls[acc.length]],by omega,?_,?_⟩
  ·rw [List.take_succ_eq_append_getElem hil,←hacc]
  ·simp
   exact IntWalk.i64_in _ (by omega)
 ·obtain rfl:i = ls.length:=by omega
  rw [List.take_length] at hacc
  subst hacc
  repeat first|refine n1 ?_|refine n3 ?_|refine n7 ?_|((refine rg 6 [4] [4,6] [] ?_);simp (maxSteps:=1000000) [hF])
  refine VS.hold0 6 1 (by simp) ?_
  refine VS.pick [4,6] [0,1,2] (by simp [hF]) ?_;simp [hF]
  refine VS.rounds (fun m st=>∃ (cur:List (List Int)) (out:List Int) (f:Nat),m = total cur∧total cur < f∧mergeF f cur out = mergeOf acc∧cur.length = acc.length∧total cur + out.length≤total acc∧(∀ y∈cur,∀ v∈y,0≤v) ∧
   st = ⟨[(4,.sub 1 [] 0 acc.length false),(6,.sub 2 [] 0 out.length false)],[.sl true () 1 (dLs acc),.sl true () 1 (dLs cur),.sl true () 1 (dInts out)],[],[]⟩)
   ⟨total acc,acc,[],total acc + 1,rfl,by omega,rfl,rfl,by simp,h0,by simp⟩ ?_
  rintro m st ⟨cur,out,f,rfl,hf,hmo,hcl,htot,hc0,rfl⟩
  obtain ⟨f,rfl⟩:∃ f',f = f' + 1:=⟨f - 1,by omega⟩
  rw [mergeF_round] at hmo
  repeat first|refine n1 ?_|refine n3 ?_|((first|refine rg 7 [4,6] [4,6,7] [] ?_|refine rg 8 [4,6,7] [4,6,7,8] [] ?_|refine rg 9 [4,6,7,8] [4,6,7,8,9] [] ?_);simp (maxSteps:=1000000) [hF])
  refine VS.pick [4,6,7,8,9] [0,1,2] (by simp [hF]) ?_;simp [hF]
  refine VS.rounds (fun m st=>∃ (i:Nat) (sm:Bool) (g:Int),i + m = cur.length∧sm = (cur.take i).any (fun x=>!nul x)∧((g = -1∧(cur.take i).find? (fit cur) = none)∨∃ x,cur.find? (fit cur) = some x∧g = hd x∧0≤hd x∧sm = true) ∧
   st = ⟨[(4,.sub 1 [] 0 acc.length false),(6,.sub 2 [] 0 out.length false),(7,.val (.bool sm)),(8,avInt g),(9,avInt i)],[.sl true () 1 (dLs acc),.sl true () 1 (dLs cur),.sl true () 1 (dInts out)],[],[]⟩)
   ⟨cur.length,0,false,-1,by omega,rfl,.inl ⟨rfl,rfl⟩,by simp⟩ ?_
  rintro m2 st ⟨i,sm,g,hi,hsm,hfnd,rfl⟩
  by_cases hg:g < 0
  ·obtain ⟨rfl,hnone⟩:g = -1∧(cur.take i).find? (fit cur) = none:=by
    rcases hfnd with h | ⟨x,_,rfl,h,_⟩
    ·exact h
    ·omega
   by_cases hic:i < cur.length
   ·have hic2:i < acc.length:=by omega
    have hn:=dLs_nth hic
    have hta:=take_any (p:=fun x=>!nul x) hic
    have htf:=take_find hic hnone
    by_cases hz:cur[i].length = 0
    ·have hnl:nul cur[i] = true:=by simp [nul,hz]
     have hft:fit cur cur[i] = false:=by simp [fit,hnl]
     repeat first|refine n1 ?_|refine n2 ?_|refine n3 ?_|refine n4 ?_|refine n6 ?_|refine n7 ?_|refine n8 ?_|((first|refine rg 10 [4,6,7,8,9] [4,6,7,8,9,36] [(4,33)] ?_|refine rg 11 [4,6,7,8,9] [4,6,7,8,9] [] ?_|refine rg 12 [4,6,7,8,9] [4,6,7,8,9,44] [] ?_|refine nc ?_);simp (maxSteps:=1000000) [hF,hic,hic2,hcl,hn,hz])
     refine nextK.of [4,6,7,8,9] [0,1,2] (m2 - 1) (by omega) (by simp [hF]) ?_
     refine ⟨i + 1,sm,-1,by omega,?_,.inl ⟨rfl,?_⟩,?_⟩
     ·rw [hta,hnl,←hsm];simp
     ·rw [htf,hft];rfl
     ·simp
      exact IntWalk.i64_in _ (by omega)
    ·have hnl:nul cur[i] = false:=by simp [nul,hz]
     have hp:0 < cur[i].length:=by omega
     have hn0:=dInts_nth hp
     have hhd:=hd_eq hp
     repeat first|refine n1 ?_|refine n2 ?_|refine n3 ?_|((first|refine rg 10 [4,6,7,8,9] [4,6,7,8,9,36] [(4,33)] ?_|refine rg 12 [4,6,7,8,9] [4,6,7,8,9,44] [] ?_|refine rg 13 [4,6,8,9] [4,6,7,8,9] [] ?_|refine rg 14 [4,6,7,8,9] [4,6,7,8,9,10] [] ?_|refine rg 15 [4,6,7,8,9,10] [4,6,7,8,9,10,11] [] ?_|refine rg 16 [4,6,7,8,9,10,11] [4,6,7,8,9,10,11,12] [] ?_|refine nc ?_);simp (maxSteps:=1000000) [hF,hic,hic2,hcl,hn,hz,hp,hn0])
     have hv0:0≤cur[i][0]:=hc0 _ (List.getElem_mem hic) _ (List.getElem_mem hp)
     generalize hv:cur[i][0] = v at *
     refine VS.pick [4,6,7,8,9,10,11,12] [0,1,2] (by simp [hF]) ?_;simp [hF]
     refine VS.rounds (fun m3 st=>∃ (k:Nat) (fr:Bool),k + m3 = cur.length∧fr = !((cur.take k).any fun y=>hasN y.tail v) ∧
      st = ⟨[(4,.sub 1 [] 0 acc.length false),(6,.sub 2 [] 0 out.length false),(7,.val (.bool true)),(8,avInt (-1)),(9,avInt i),(10,avInt v),(11,.val (.bool fr)),(12,avInt k)],[.sl true () 1 (dLs acc),.sl true () 1 (dLs cur),.sl true () 1 (dInts out)],[],[]⟩)
      ⟨cur.length,0,true,by omega,rfl,by simp⟩ ?_
     rintro m3 st ⟨k,fr,hk,hfr,rfl⟩
     repeat first|refine n1 ?_|((first|refine rg 17 [4,6,7,8,9,10,11,12] [4,6,7,8,9,10,11,12,54] [] ?_|refine nc ?_);simp (maxSteps:=1000000) [hF,hcl])
     refine ⟨fun hlt=>?_,fun hge=>?_⟩
     ·have hkc:k < cur.length:=by omega
      have hka:k < acc.length:=by omega
      have hkn:=dLs_nth hkc
      have htk:=take_any (p:=fun y=>hasN y.tail v) hkc
      by_cases h1:1 < cur[k].length
      ·have h1c:(1:Int) < cur[k].length:=by omega
       have h1':1≤cur[k].length:=by omega
       have htl:=dInts_tail cur[k]
       have hkl:cur[k].length≤100000000:=by have:=total_mem (List.getElem_mem hkc);omega
       have hkl2:cur[k].tail.length≤100000000:=by rw [List.length_tail];omega
       repeat first|refine n1 ?_|refine n2 ?_|refine n3 ?_|((refine rg 19 [4,6,7,8,9,10,11,12] [4,6,7,8,9,10,11,12,71] [(6,63)] ?_);simp (maxSteps:=1000000) [hF,hkc,hka,hcl,hkn,h1,h1c,h1',htl])
       refine (Has_ok false cur[k].tail v hkl2).go [] (by simp (maxSteps:=1000000) [hF,hkc,hka,hcl,hkn,h1,h1c,h1',htl]) ?_;rintro av X κ ⟨rfl,rfl,rfl⟩;simp (maxSteps:=1000000) [hF,hkc,hka,hcl,hkn,h1,h1c,h1',htl]
       cases hh:hasN cur[k].tail v with
       | true =>
        repeat first|refine n4 ?_|refine n5 ?_|refine n6 ?_|((first|refine rg 18 [4,6,7,8,9,10,11,12] [4,6,7,8,9,10,11,12] [] ?_|refine rg 20 [4,6,7,8,9,10,12] [4,6,7,8,9,10,11,12] [] ?_|refine nc ?_);simp (maxSteps:=1000000) [hF,hh])
        refine nextK.of [4,6,7,8,9,10,11,12] [0,1,2] (m3 - 1) (by omega) (by simp [hF]) ?_
        refine ⟨k + 1,false,by omega,by rw [htk,hh];simp,?_⟩
        simp
        exact IntWalk.i64_in _ (by omega)
       | false =>
        repeat first|refine n2 ?_|refine n4 ?_|refine n5 ?_|refine n6 ?_|((first|refine rg 18 [4,6,7,8,9,10,11,12] [4,6,7,8,9,10,11,12] [] ?_|refine nc ?_);simp (maxSteps:=1000000) [hF,hh])
        refine nextK.of [4,6,7,8,9,10,11,12] [0,1,2] (m3 - 1) (by omega) (by simp [hF]) ?_
        refine ⟨k + 1,fr,by omega,by rw [htk,hh,hfr];simp,?_⟩
        simp
        exact IntWalk.i64_in _ (by omega)
      ·have hh:hasN cur[k].tail v = false:=by
        have:cur[k].tail = []:=by rw [←List.length_eq_zero_iff,List.length_tail];omega
        rw [this];rfl
       have h1c:¬ (1:Int) < cur[k].length:=by omega
       repeat first|refine n1 ?_|refine n2 ?_|refine n3 ?_|refine n4 ?_|refine n5 ?_|refine n6 ?_|((first|refine rg 18 [4,6,7,8,9,10,11,12] [4,6,7,8,9,10,11,12] [] ?_|refine rg 19 [4,6,7,8,9,10,11,12] [4,6,7,8,9,10,11,12,71] [(6,63)] ?_|refine nc ?_);simp (maxSteps:=1000000) [hF,hkc,hka,hcl,hkn,h1,h1c])
       refine nextK.of [4,6,7,8,9,10,11,12] [0,1,2] (m3 - 1) (by omega) (by simp [hF]) ?_
       refine ⟨k + 1,fr,by omega,by rw [htk,hh,hfr];simp,?_⟩
       simp
       exact IntWalk.i64_in _ (by omega)
     ·obtain rfl:k = cur.length:=by omega
      have hit:fr = !inTails cur v:=by rw [hfr,List.take_length];rfl
      have hft:fit cur cur[i] = fr:=by simp only [fit,hnl,hhd,hit];rfl
      cases fr with
      | true =>
       repeat first|refine n1 ?_|refine n4 ?_|refine n5 ?_|refine n6 ?_|refine n7 ?_|((first|refine rg 11 [4,6,7,8,9] [4,6,7,8,9] [] ?_|refine rg 21 [4,6,7,8,9,10,11] [4,6,7,8,9,10,72] [] ?_|refine rg 22 [4,6,7,9,10] [4,6,7,8,9] [] ?_|refine nc ?_);simp (maxSteps:=1000000) [hF])
       refine nextK.of [4,6,7,8,9] [0,1,2] (m2 - 1) (by omega) (by simp [hF]) ?_
       refine ⟨i + 1,true,v,by omega,by rw [hta,hnl];simp,.inr ⟨cur[i],?_,hhd.symm,by rw [hhd];exact hv0,rfl⟩,?_⟩
       ·exact take_find_of (by rw [htf,hft];rfl)
       ·simp
        exact IntWalk.i64_in _ (by omega)
      | false =>
       repeat first|refine n1 ?_|refine n2 ?_|refine n4 ?_|refine n5 ?_|refine n6 ?_|refine n7 ?_|((first|refine rg 11 [4,6,7,8,9] [4,6,7,8,9] [] ?_|refine rg 21 [4,6,7,8,9,10,11] [4,6,7,8,9,10,72] [] ?_|refine nc ?_);simp (maxSteps:=1000000) [hF])
       refine nextK.of [4,6,7,8,9] [0,1,2] (m2 - 1) (by omega) (by simp [hF]) ?_
       refine ⟨i + 1,true,-1,by omega,by rw [hta,hnl];simp,.inl ⟨rfl,by rw [htf,hft];rfl⟩,?_⟩
       simp
       exact IntWalk.i64_in _ (by omega)
   ·obtain rfl:i = cur.length:=by omega
    rw [List.take_length] at hnone hsm
    have hic3:¬ cur.length < acc.length:=by omega
    rw [←hsm,hnone] at hmo
    cases sm with
    | false =>
     simp only [if_true] at hmo
     rw [←hmo]
     repeat first|refine n1 ?_|refine n7 ?_|((first|refine rg 10 [4,6,7,8,9] [4,6,7,8,9,36] [(4,33)] ?_|refine rg 23 [4,6,7,8] [4,6,8,75] [] ?_|refine rg 24 [6] [2,3] [] ?_|refine nc ?_);simp (maxSteps:=1000000) [hF,hic3,hcl])
     (try refine nr ?_);(repeat first|refine nb_ ?_|refine nl_ ?_);refine endK.o [2,3] [0,2] [] ?_;simp [hF,retK,covers,mpre]
    | true =>
     simp only [Bool.true_eq_false,if_false] at hmo
     rw [←hmo]
     repeat first|refine n1 ?_|refine n2 ?_|refine n7 ?_|((first|refine rg 10 [4,6,7,8,9] [4,6,7,8,9,36] [(4,33)] ?_|refine rg 23 [4,6,7,8] [4,6,8,75] [] ?_|refine rg 25 [4,6,8] [4,6,8,78] [] ?_|refine rg 26 [] [2,3] [] ?_|refine nc ?_);simp (maxSteps:=1000000) [hF,hic3,hcl])
     (try refine nr ?_);(repeat first|refine nb_ ?_|refine nl_ ?_);refine endK.o [2,3] [0] [] ?_;simp [hF,retK,covers,mpre]
  ·obtain ⟨x,hx,rfl,hx0,rfl⟩:∃ x,cur.find? (fit cur) = some x∧g = hd x∧0≤hd x∧sm = true:=by
    rcases hfnd with ⟨rfl,_⟩ | h
    ·omega
    ·exact h
   obtain ⟨hxm,hxp⟩:=find_mem_hd hx
   have hany:(cur.any fun x=>!nul x) = true:=List.any_eq_true.2 ⟨x,hxm,by cases x with | nil=>simp at hxp | cons a l=>rfl⟩
   rw [hany,hx] at hmo
   simp only [Bool.true_eq_false,if_false] at hmo
   have hlt:=total_drop_lt hxm hxp rfl
   have hwr:=without_round hx
   have hxl:=total_mem hxm
   have happ:=dInts_app1 out (hd x)
   have b1:(out.length + 1) * 8≤140737488355328:=by omega
   have b2:out.length + 1≤9223372036854775807:=by omega
   have hmid:=dInts_mid_all (out ++ [hd x])
   generalize hd x = g at *
   clear hx hsm hxm hxp hany hxl hfnd x
   by_cases hic:i < acc.length
   all_goals
    repeat first|refine n1 ?_|refine n2 ?_|refine n3 ?_|refine n7 ?_|((first|refine rg 10 [4,6,7,8,9] [4,6,7,8,9,36] [(4,33)] ?_|refine rg 23 [4,6,7,8] [4,6,8,75] [] ?_|refine rg 25 [4,6,8] [4,6,8,78] [] ?_|refine rg 27 [4,6,8] [4,6,8] [] ?_|refine rg 28 [4,6,8] [4,6,8,13] [] ?_|refine nc ?_);simp (maxSteps:=1000000) [hF,hg,hic,happ,b1,b2])
    refine VS.pick [4,6,8,13] [0,1,2] (by simp [hF]) ?_;simp [hF]
    refine VS.rounds (fun m3 st=>∃ (k:Nat),k + m3 = cur.length ∧
     st = ⟨[(4,.sub 1 [] 0 acc.length false),(6,.sub 2 [] 0 (out.length + 1) false),(8,avInt g),(13,avInt k)],[.sl true () 1 (dLs acc),.sl true () 1 (dLs (pref (fun y=>withoutF y [g]) cur k)),.sl true () 1 (dInts (out ++ [g]))],[],[]⟩)
     ⟨cur.length,0,by omega,by simp⟩ ?_
    rintro m3 st ⟨k,hk,rfl⟩
    have hpl:=pref_len (fun y=>withoutF y [g]) cur k
    repeat first|refine n1 ?_|((first|refine rg 29 [4,6,8,13] [4,6,8,13,86] [] ?_|refine nc ?_);simp (maxSteps:=1000000) [hF,hpl,hcl])
    refine ⟨fun hlt=>?_,fun hge=>?_⟩
    ·have hkc:k < cur.length:=by omega
     have hka:k < acc.length:=by omega
     have hkp:k < (pref (fun y=>withoutF y [g]) cur k).length:=by omega
     have hkn:=dLs_nth hkp
     rw [pref_at _ _ _ hkc] at hkn
     have hsp:=pref_set (fun y=>withoutF y [g]) cur k hkc
     have hkl:cur[k].length≤100000000:=by have:=total_mem (List.getElem_mem hkc);omega
     have hseq:=dLsS_eq (pref (fun y=>withoutF y [g]) cur k) k (withoutF cur[k] [g])
     have hsn:=dLsS_nth hkp (withoutF cur[k] [g])
     have hss:=dLsS_set (pref (fun y=>withoutF y [g]) cur k) k (withoutF cur[k] [g])
     rw [hsp] at hss
     repeat first|refine n1 ?_|refine n2 ?_|refine n3 ?_|((refine rg 31 [4,6,8,13] [4,6,8,13] [] ?_);simp (maxSteps:=1000000) [hF,hkc,hka,hcl,hkn,hpl])
     refine (without_l false cur[k] g hkl).go [(3,[])] (by simp (maxSteps:=1000000) [hF,dInts_one,hkc,hka,hcl,hkn,hpl,hseq]) ?_;rintro av X κ ⟨rfl,rfl,rfl⟩;simp (maxSteps:=1000000) [hF,dInts_one,hkc,hka,hcl,hkn,hpl,hseq]
     repeat first|refine n4 ?_|refine n5 ?_
     refine VS.cold 1 [.i k] (by simp (maxSteps:=1000000) [hF,T.freeze,hsn,hss,hkp]) (by simp (maxSteps:=1000000) [hF,T.freeze,hsn,hss,hkp]) (by simp (maxSteps:=1000000) [hF,T.freeze,hsn,hss,hkp]) ?_;simp [hF,St.cold,T.freeze,hsn,hss,hkp]
     repeat first|refine n4 ?_|refine n6 ?_|((refine rg 30 [4,6,8,13] [4,6,8,13] [] ?_);simp (maxSteps:=1000000) [hF])
     refine nextK.of [4,6,8,13] [0,1,2] (m3 - 1) (by omega) (by simp [hF]) ?_
     refine ⟨k + 1,by omega,?_⟩
     simp
     exact IntWalk.i64_in _ (by omega)
    ·obtain rfl:k = cur.length:=by omega
     rw [pref_all,hwr]
     have hka:¬ cur.length < acc.length:=by omega
     repeat first|refine n4 ?_|refine n6 ?_|refine n7 ?_
     refine nextK.of [4,6] [0,1,2] (total (cur.map (dropHd g))) (by omega) (by simp [hF]) ?_
     refine ⟨cur.map (dropHd g),out ++ [g],f,rfl,by omega,hmo,by simpa using hcl,by simp;omega,?_,?_⟩
     ·intro y hy v hv
      obtain ⟨z,hz,rfl⟩:=List.mem_map.1 hy
      exact hc0 z hz v (mem_dropHd hv)
     ·simp
end Go.Proofs.YtbhigdljojlhnaaGreat

/- The document's orders. -/
namespace Go.Proofs.YtbhigdljojlhnaaGreat
set_option linter.all false
open Go.Vc Go.Proofs
set_option linter.unusedSimpArgs false
set_option linter.unusedVariables false
set_option maxRecDepth 100000
set_option maxHeartbeats 4000000
attribute [local irreducible] CallW EqK
def dBs (l:List Bool):D:=sq (l.map fun b=>.val (.bool b))
@[simp] theorem dBs_len (l:List Bool):(dBs l).len = l.length:=by simp [dBs]
@[simp] theorem dBs_free (l:List Bool):(dBs l).free = true:=sq_free fun x hx=>by obtain ⟨n,_,rfl⟩:=List.mem_map.1 hx;rfl
theorem dBs_nth {l:List Bool} {i:Nat} (h:i < l.length):(dBs l).nth i = .val (.bool l[i]):=by rw [dBs,sq_nth_lt (by simpa using h)];simp
theorem dBs_set (l:List Bool) (i:Nat) (b:Bool):(dBs l).setN i (.val (.bool b)) = dBs (l.set i b):=by simp only [dBs,sq_setN,List.map_set]
theorem dOs_set (l:List (Bool×List Int)) (i:Nat) (b:Bool) (x:List Int):(dOs l).setN i (.sl b () 1 (dInts x)) = dOs (l.set i (b,x)):=by simp only [dOs,sq_setN,List.map_set]
def dO (kn:List Bool) (lst:List (Bool×List Int)):D:=.box true () (.agg (.cons (.sl true () 1 (dBs kn)) (.cons (.sl true () 1 (dOs lst)) .nil)))
@[simp high] theorem head_dO (kn:List Bool) (lst:List (Bool×List Int)):isHead (dO kn lst) = true:=by rw [dO,isHead]
structure MemoR (R:List Th) (kn:List Bool) (lst:List (Bool×List Int)):Prop where
 kl:kn.length = R.length
 ll:lst.length = R.length
 ok:∀ i:Nat,(h:i < R.length)→kn[i]'(by omega) = true→∃ o,ordOf R i = some o∧lst[i]'(by omega) = (false,o)
def Mono (kn kn':List Bool):Prop:=∀ j:Nat,kn[j]? = some true→kn'[j]? = some true
theorem Mono.refl (kn:List Bool):Mono kn kn:=fun _ h=>h
theorem Mono.trans {a b c:List Bool} (h:Mono a b) (h':Mono b c):Mono a c:=fun j hj=>h' j (h j hj)
def FindRR (R:List Th) (t:Nat) (kn0:List Bool) (av:AV) (X:List D) (κ:List (Nat×Path)):Prop :=
 ∃ kn lst,MemoR R kn lst∧Mono kn0 kn∧X = [dR R,dO kn lst]∧κ = [(1,[.d])]∧av = avBool (ordOf R t).isSome∧((ordOf R t).isSome = true→kn[t]? = some true)
def FindOkR (R:List Th) (r:Int→Nat) (n:Nat):Prop:=∀ t:Nat,t < R.length→r t < n→∀ kn lst,MemoR R kn lst →
 Meets Tryz.prog 136 [dR R,dO kn lst] (.cons (.ptr 0 [.d]) (.cons (.ptr 1 [.d]) (.cons (avInt t) .nil))) (FindRR R t kn)
section
variable {R:List Th} {r:Int→Nat} {n t:Nat} {kn:List Bool} {lst:List (Bool×List Int)}
theorem FindOkR.yes (h:FindOkR R r n) (ht:t < R.length) (hr:r t < n) (hM:MemoR R kn lst) {o:List Int} (ho:ordOf R t = some o) :
  Meets Tryz.prog 136 [dR R,dO kn lst] (.cons (.ptr 0 [.d]) (.cons (.ptr 1 [.d]) (.cons (avInt t) .nil)))
  fun av X κ=>∃ kn' lst',MemoR R kn' lst'∧Mono kn kn'∧(dOs lst').nth t = .sl false () 1 (dInts o)∧av = avBool true∧X = [dR R,dO kn' lst']∧κ = [(1,[.d])] :=
 Meets.mono (h t ht hr kn lst hM) fun av X κ ⟨kn,lst,h1,hmo,h2,h3,h4,h5⟩=>by
  rw [ho] at h4 h5
  have hk:=h5 rfl
  have hl:t < lst.length:=by rw [h1.ll];exact ht
  have hkl:t < kn.length:=by rw [h1.kl];exact ht
  rw [List.getElem?_eq_getElem hkl,Option.some.injEq] at hk
  obtain ⟨o',q1,q2⟩:=h1.ok t ht hk
  rw [ho,Option.some.injEq] at q1
  exact ⟨kn,lst,h1,hmo,by rw [dOs_nth hl,q2,q1],h4,h2,h3⟩
theorem FindOkR.no (h:FindOkR R r n) (ht:t < R.length) (hr:r t < n) (hM:MemoR R kn lst) (ho:ordOf R t = none) :
  Meets Tryz.prog 136 [dR R,dO kn lst] (.cons (.ptr 0 [.d]) (.cons (.ptr 1 [.d]) (.cons (avInt t) .nil)))
  fun av X κ=>∃ kn' lst',MemoR R kn' lst'∧Mono kn kn'∧av = avBool false∧X = [dR R,dO kn' lst']∧κ = [(1,[.d])] :=
 Meets.mono (h t ht hr kn lst hM) fun av X κ ⟨kn,lst,h1,hmo,h2,h3,h4,h5⟩=>⟨kn,lst,h1,hmo,by rw [ho] at h4;exact h4,h2,h3⟩
end
def dTc (x:Th):D:=.box true () (.agg (.cons (.val (.int .i64 x.kind)) (.cons (.val (.int .i64 x.sup)) (.cons (.val (.int .i64 x.obj)) (.cons (.val (.int .i64 x.own)) (.cons (.sl false () 1 (dInts x.bef)) (.cons (.sl false () 1 (dInts x.ins)) .nil)))))))
@[simp high] theorem head_dTc (x:Th):isHead (dTc x) = true:=by rw [dTc,isHead]
theorem own_sq {l:List D} (h:∀ x∈l,x.allOwn = true):(sq l).allOwn = true:=by
 induction l with
 | nil=>rfl
 | cons a l ih=>simp only [sq,T.allOwn,Bool.and_eq_true];exact ⟨h a (by simp),ih fun x hx=>h x (by simp [hx])⟩
@[simp] theorem own_ints (l:List Int):(dInts l).allOwn = true:=own_sq fun x hx=>by obtain ⟨n,_,rfl⟩:=List.mem_map.1 hx;rfl
theorem without_pp (ex ex2:Bool) (l out rest:List Int) (hl:l.length≤100000000) (ho:out.length≤100000000):Meets Tryz.prog 150 [.sl true () 1 (dInts (out ++ rest)),.sl true () 1 (dInts l)] (.cons (.sub 1 [] 0 l.length ex) (.cons (.sub 0 [] 0 out.length ex2) .nil))
  fun av X κ=>av = .sub 2 [] 0 (withoutF l out).length false∧X = [.sl true () 1 (dInts (out ++ rest)),.sl true () 1 (dInts l),.sl true () 1 (dInts (withoutF l out))]∧κ = []:=by
 have hm:=without_ok ex ex2 l out hl ho
 have hfm:(dInts (out ++ rest)).mid 0 out.length = dInts out:=by rw [dInts_mid];simp
 have h1:Meets Tryz.prog 150 [.sl true () 1 (dInts l)] (.cons (.sub 0 [] 0 l.length ex) (.cons (.imm 1 (dInts out) ex2) .nil))
   fun av X κ=>av = .sub 1 [] 0 (withoutF l out).length false∧X = [.sl true () 1 (dInts l),.sl true () 1 (dInts (withoutF l out))]∧κ = []:=by
  refine Meets.mono (Meets.warm (d0:=.sl true () 1 (dInts l)) (Y:=[]) (by simpa [AV.chilled] using hm) ?_) ?_
  ·rintro av X κ ⟨rfl,rfl,rfl⟩
   exact ⟨rfl,by simp [T.allOwn],rfl⟩
  ·rintro av X κ ⟨av0,X0,⟨rfl,rfl,_⟩,rfl,rfl,rfl⟩
   exact ⟨rfl,rfl,rfl⟩
 refine Meets.mono (Meets.warm (d0:=.sl true () 1 (dInts (out ++ rest))) (Y:=[.sl true () 1 (dInts l)]) (by simpa [AV.chilled,hfm] using h1) ?_) ?_
 ·rintro av X κ ⟨rfl,rfl,rfl⟩
  exact ⟨rfl,by simp [T.allOwn],rfl⟩
 ·rintro av X κ ⟨av0,X0,⟨rfl,rfl,_⟩,rfl,rfl,rfl⟩
  exact ⟨rfl,rfl,rfl⟩
theorem merged {P Q:Prop} (h:(Unit→Q)→P) (hq:Q):P:=h fun _=>hq
theorem rfind_step {R:List Th} {r:Int→Nat} (B:Base R r) {n:Nat} (hF:FindOkR R r n) (t:Nat) (ht:t < R.length) (hr:r t < n + 1) (kn0:List Bool) (lst0:List (Bool×List Int)) (hM0:MemoR R kn0 lst0) :
  Meets Tryz.prog 136 [dR R,dO kn0 lst0] (.cons (.ptr 0 [.d]) (.cons (.ptr 1 [.d]) (.cons (avInt t) .nil))) (FindRR R t kn0):=by
 have hfind:=hF
 clear hF
 unfold FindRR
 have hL:=B.len
 have hx:R[t]? = some R[t]:=List.getElem?_eq_getElem ht
 have hstep:=ordOf_step B hx
 have hn:=dThs_nth ht
 have hedge:=B.edge _ _ hx
 have hnb:=B.nb _ _ hx
 have hnp:=B.np _ _ hx
 have hlb:=nodup_bound R.length _ hnb fun x hx=>⟨(hedge x (.inl hx)).1,(hedge x (.inl hx)).2.1⟩
 have hlp:=nodup_bound R.length _ hnp fun x hx=>⟨(hedge x (.inr hx)).1,(hedge x (.inr hx)).2.1⟩
 generalize R[t] = x at *
 have htk:t < kn0.length:=by rw [hM0.kl];exact ht
 have hkn:=dBs_nth htk
 cases hk:kn0[t] with
 | true =>
  obtain ⟨o,ho,_⟩:=hM0.ok t ht hk
  rw [hk] at hkn
  rw [ho]
  refine fb Tryz.func136 Tryz.ntmps136 [.tmp 6] fun w0 I0 F0 hF=>?_
  repeat first|refine n1 ?_|((first|refine rg 0 [0,1,2] [0,1,2] [] ?_|refine rg 1 [0,1,2] [0,1,2,23] [] ?_|refine rg 2 [] [6] [] ?_|refine nc ?_);simp (maxSteps:=1000000) [hF,dR,dO,hkn,htk])
  (try refine nr ?_);(repeat first|refine nb_ ?_|refine nl_ ?_);refine endK.o [6] [0,1] [(1,[.d])] ?_;simp [hF,retK,covers,mpre,dR,dO]
  exact ⟨kn0,lst0,hM0,Mono.refl _,⟨rfl,rfl⟩,by rw [List.getElem?_eq_getElem htk,hk]⟩
 | false =>
  rw [hk] at hkn
  refine fb Tryz.func136 Tryz.ntmps136 [.tmp 6] fun w0 I0 F0 hF=>?_
  repeat first|refine n1 ?_|refine n2 ?_|refine n3 ?_|((first|refine rg 0 [0,1,2] [0,1,2] [] ?_|refine rg 1 [0,1,2] [0,1,2,23] [] ?_|refine rg 3 [0,1,2] [0,1,2,7] [] ?_|refine rg 4 [0,1,2,7] [0,1,2,7,8,9] [] ?_|refine rg 5 [0,1,2,7,8,9] [0,1,2,7,8,9,10] [] ?_|refine nc ?_);simp (maxSteps:=1000000) [hF,dR,dO,hkn,htk,hn,ht])
  have hthb:∀ u∈x.bef,0≤u∧u < R.length∧r u < n:=fun u hu=>by have:=hedge u (.inl hu);omega
  have hthp:∀ u∈parents x,0≤u∧u < R.length∧r u < n:=fun u hu=>by have:=hedge u (.inr hu);omega
  refine VS.hold0 8 1 (by simp) ?_
  refine VS.widen [(1,[.d])] (by simp [covers,mpre]) ?_
  refine VS.pick [0,1,2,7,8,9,10] [0,1,2,3] (by simp [hF]) ?_;simp [hF]
  refine VS.rounds (fun m st=>∃ (i:Nat) (acc:List (List Int)) (kn:List Bool) (lst:List (Bool×List Int)),i + m = x.bef.length∧acc.length = i∧(∀ y∈acc,y.length≤1000∧∀ v∈y,0≤v)∧MemoR R kn lst∧Mono kn0 kn∧ordersOf (ordOf R) x.bef = (ordersOf (ordOf R) (x.bef.drop i)).map (fun r=>acc ++ r) ∧
   st = ⟨[(0,.ptr 0 [.d]),(1,.ptr 1 [.d]),(2,avInt t),(7,.ptr 2 [.d]),(8,.sub 3 [] 0 i false),(9,.nils 1),(10,avInt i)],[dR R,dO kn lst,dTc x,.sl true () 1 (dLs acc)],[(1,[.d])],[]⟩)
   ⟨x.bef.length,0,[],kn0,lst0,by omega,rfl,(fun y hy=>by cases hy),hM0,Mono.refl _,by simp,by simp [dR,dO,dTc]⟩ ?_
  clear hkn hk htk hM0
  rintro m st ⟨i,acc,kn,lst,hi,hal,hacc,hM,hmo,hord,rfl⟩
  repeat first|refine n1 ?_|((first|refine rg 6 [0,1,2,7,8,9,10] [0,1,2,7,8,9,10,35] [] ?_|refine nc ?_);simp (maxSteps:=1000000) [hF,dTc])
  refine ⟨fun hlt=>?_,fun hge=>?_⟩
  ·have hil:i < x.bef.length:=by omega
   have hbn:=dInts_nth hil
   obtain ⟨u0,u1,u2⟩:=hthb _ (List.getElem_mem hil)
   have hdrop:=List.drop_eq_getElem_cons hil
   rw [hdrop,ordersOf_cons] at hord
   repeat first|refine n1 ?_|refine n2 ?_|refine n3 ?_|((refine rg 8 [0,1,2,7,8,9,10] [0,1,2,7,8,9,10,46] [] ?_);simp (maxSteps:=1000000) [hF,hbn,hil])
   generalize x.bef[i] = u at *
   obtain ⟨u,rfl⟩:∃ k:Nat,u = k:=⟨u.toNat,by omega⟩
   have hul:u < R.length:=by omega
   cases ho:ordOf R u with
   | none =>
    rw [ho] at hord
    have hmf:mergedF (ordOf R) x.bef = none:=by unfold mergedF;rw [hord];rfl
    rw [hmf] at hstep
    simp only at hstep
    rw [hstep]
    refine (hfind.no hul u2 hM ho).go [(0,[]),(1,[])] (by simp (maxSteps:=1000000) [hF,dR,dO]) ?_;rintro av X κ ⟨kn,lst,hM,hmo2,rfl,rfl,rfl⟩;simp (maxSteps:=1000000) [hF,dR,dO]
    have hmo:=hmo.trans hmo2
    repeat first|refine n1 ?_|((first|refine rg 9 [] [6] [] ?_|refine nc ?_);simp (maxSteps:=1000000) [hF])
    (try refine nr ?_);(repeat first|refine nb_ ?_|refine nl_ ?_);refine endK.o [6] [0,1] [(1,[.d])] ?_;simp [hF,retK,covers,mpre,dR,dO]
    exact ⟨kn,lst,hM,hmo,rfl,rfl⟩
   | some o =>
    rw [ho] at hord
    have hol:=ord_len B hul ho
    have hos:=ordOf_spec B hul ho
    have happ:=dLs_app1 acc o
    have b1:(acc.length + 1) * 24≤140737488355328:=by omega
    have b2:acc.length + 1≤9223372036854775807:=by omega
    refine (hfind.yes hul u2 hM ho).go [(0,[]),(1,[])] (by simp (maxSteps:=1000000) [hF,dR,dO]) ?_;rintro av X κ ⟨kn,lst,hM,hmo2,hnl,rfl,rfl,rfl⟩;simp (maxSteps:=1000000) [hF,dR,dO]
    have hmo:=hmo.trans hmo2
    have hull:u < lst.length:=by rw [hM.ll];exact hul
    subst hal
    repeat first|refine n2 ?_|refine n4 ?_|refine n5 ?_|((first|(refine dr 10 0 [0,1,2,7,8,9,10] [0,1,2,7,8,9,10] [] [⟨0,256,140737488355328,5⟩,⟨0,2,281474976710656,5⟩,⟨2,281474976710656,562949953421312,5⟩,⟨4,562949953421312,1125899906842624,5⟩,⟨8,1125899906842624,2251799813685248,6⟩,⟨0,128,4503599627370496,5⟩,⟨32,4503599627370496,9007199254740992,6⟩,⟨0,1024,18014398509481984,5⟩,⟨192,27021597764222976,36028797018963968,5⟩,⟨256,36028797018963968,72057594037927936,6⟩,⟨528,74309393851613184,144115188075855872,5⟩,⟨1024,144115188075855872,288230376151711744,6⟩,⟨2048,288230376151711744,576460752303423488,4⟩,⟨4097,576601489791778816,1152921504606846976,0⟩,⟨16383,1152921504606846976,256,5⟩] (.take 0 (.take 1 (.take 2 (.take 3 (.take 4 (.take 5 (.take 6 (.take 7 (.take 8 (.take 9 (.take 10 (.take 11 (.fork (.alt 12 (.fork (.alt 13 (.take 14 (.done)) (.nil))) (.nil))))))))))))))) (.run [0,1,2,3,4,5,6,7,8,9,10,11,12,13,14] (.done)) ?_;simp only [drs])|refine nc ?_);simp (maxSteps:=1000000) [hF,hbn,hil,hnl,hull,happ,b1,b2])
    refine VS.widen [(1,[.d])] (by simp [covers,mpre]) ?_
    repeat first|refine n4 ?_|refine n6 ?_|((refine rg 7 [0,1,2,7,8,9,10] [0,1,2,7,8,9,10] [] ?_);simp (maxSteps:=1000000) [hF])
    refine nextK.of [0,1,2,7,8,9,10] [0,1,2,3] (m - 1) (by omega) (by simp [hF]) ?_
    refine ⟨acc.length + 1,acc ++ [o],kn,lst,by omega,by simp,fun y hy=>?_,hM,hmo,?_,?_⟩
    ·rcases List.mem_append.1 hy with hy | hy
     ·exact hacc y hy
     ·simp only [List.mem_singleton] at hy;subst hy;exact ⟨hol,fun v hv=>(hos.2.2 v hv).1⟩
    ·rw [hord];simp [Option.map_map,Function.comp_def]
    ·simp [dR,dO,dTc]
     exact IntWalk.i64_in _ (by omega)
  ·obtain rfl:i = x.bef.length:=by omega
   have hord2:ordersOf (ordOf R) x.bef = some acc:=by rw [hord,List.drop_length];simp [ordersOf]
   clear hord
   have hil:x.ins.length≤R.length:=by
    have:x.ins.length≤(parents x).length:=by simp [parents]
    omega
   have c1:x.ins.length * 8≤140737488355328:=by omega
   have c2:x.ins.length≤9223372036854775807:=by omega
   apply merged
   ·intro key
    by_cases hs:0≤x.sup
    ·have hpar:parents x = x.ins ++ [x.sup]:=by simp [parents,hs]
     have happ:=dInts_app1 x.ins x.sup
     have b1:(x.ins.length + 1) * 8≤140737488355328:=by omega
     have b2:x.ins.length + 1≤9223372036854775807:=by omega
     have hmid:(dInts (x.ins ++ [x.sup])).mid 0 (x.ins.length + 1) = dInts (x.ins ++ [x.sup]):=sq_mid_all _ _ (by simp)
     repeat first|refine n1 ?_|refine n7 ?_|((first|refine rg 11 [0,1,2,7,8,9] [0,1,2,7,8,9,11] [] ?_|refine rg 12 [0,1,2,7,8,9,11] [0,1,2,7,8,9,11,67] [] ?_|refine rg 13 [0,1,2,7,8,9,11] [0,1,2,7,8,9,11] [] ?_|refine nc ?_);simp (maxSteps:=1000000) [hF,hs,happ,b1,b2,c1,c2])
     refine VS.cool 11 (by simp (maxSteps:=1000000) [hF,hmid]) ?_;simp [hF,St.cool,hmid]
     rw [←hpar]
     refine VS.pick [0,1,2,7,8,9,11] [0,1,2,3] (by simp [hF]) ?_;simp [hF]
     exact key ()
    ·have hpar:parents x = x.ins:=by simp [parents,hs]
     repeat first|refine n1 ?_|refine n2 ?_|refine n7 ?_|((first|refine rg 11 [0,1,2,7,8,9] [0,1,2,7,8,9,11] [] ?_|refine rg 12 [0,1,2,7,8,9,11] [0,1,2,7,8,9,11,67] [] ?_|refine nc ?_);simp (maxSteps:=1000000) [hF,hs,c1,c2])
     refine VS.cool 11 (by simp (maxSteps:=1000000) [hF]) ?_;simp [hF,St.cool]
     refine VS.pick [0,1,2,7,8,9,11] [0,1,2,3] (by simp [hF]) ?_;simp [hF]
     have hk:=key ()
     rw [hpar] at hk
     exact hk
   repeat first|refine n3 ?_|((refine rg 14 [0,1,2,7,8,9,11] [0,1,2,7,8,9,11,12] [] ?_);simp (maxSteps:=1000000) [hF])
   refine VS.hold0 9 1 (by simp) ?_
   refine VS.widen [(1,[.d])] (by simp [covers,mpre]) ?_
   refine VS.pick [0,1,2,7,8,9,11,12] [0,1,2,3,4] (by simp [hF]) ?_;simp [hF]
   refine VS.rounds (fun m st=>∃ (i:Nat) (acc2:List (List Int)) (kn:List Bool) (lst:List (Bool×List Int)),i + m = (parents x).length∧acc2.length = i∧(∀ y∈acc2,y.length≤1000∧∀ v∈y,0≤v)∧MemoR R kn lst∧Mono kn0 kn∧ordersOf (ordOf R) (parents x) = (ordersOf (ordOf R) ((parents x).drop i)).map (fun r=>acc2 ++ r) ∧
    st = ⟨[(0,.ptr 0 [.d]),(1,.ptr 1 [.d]),(2,avInt t),(7,.ptr 2 [.d]),(8,.sub 3 [] 0 x.bef.length false),(9,.sub 4 [] 0 i false),(11,.imm 1 (dInts (parents x)) false),(12,avInt i)],[dR R,dO kn lst,dTc x,.sl true () 1 (dLs acc),.sl true () 1 (dLs acc2)],[(1,[.d])],[]⟩)
    ⟨(parents x).length,0,[],kn,lst,by omega,rfl,(fun y hy=>by cases hy),hM,hmo,by simp,by simp [dTc]⟩ ?_
   clear hM hmo hi m
   rintro m st ⟨i,acc2,kn,lst,hi,hal2,hacc2,hM,hmo,hord,rfl⟩
   repeat first|refine n1 ?_|((first|refine rg 15 [0,1,2,7,8,9,11,12] [0,1,2,7,8,9,11,12,76] [] ?_|refine nc ?_);simp (maxSteps:=1000000) [hF,dTc])
   refine ⟨fun hlt=>?_,fun hge=>?_⟩
   ·have hil2:i < (parents x).length:=by omega
    have hbn:=dInts_nth hil2
    obtain ⟨u0,u1,u2⟩:=hthp _ (List.getElem_mem hil2)
    have hdrop:=List.drop_eq_getElem_cons hil2
    rw [hdrop,ordersOf_cons] at hord
    repeat first|refine n1 ?_|refine n2 ?_|refine n3 ?_|((refine rg 17 [0,1,2,7,8,9,11,12] [0,1,2,7,8,9,11,12,86] [] ?_);simp (maxSteps:=1000000) [hF,hbn,hil2])
    generalize (parents x)[i] = u at *
    obtain ⟨u,rfl⟩:∃ k:Nat,u = k:=⟨u.toNat,by omega⟩
    have hul:u < R.length:=by omega
    cases ho:ordOf R u with
    | none =>
     rw [ho] at hord
     have hmf:mergedF (ordOf R) (parents x) = none:=by unfold mergedF;rw [hord];rfl
     have hnone:ordOf R t = none:=by
      rw [hstep,hmf]
      cases mergedF (ordOf R) x.bef <;> rfl
     rw [hnone]
     refine (hfind.no hul u2 hM ho).go [(0,[]),(1,[])] (by simp (maxSteps:=1000000) [hF,dR,dO]) ?_;rintro av X κ ⟨kn,lst,hM,hmo2,rfl,rfl,rfl⟩;simp (maxSteps:=1000000) [hF,dR,dO]
     have hmo:=hmo.trans hmo2
     repeat first|refine n1 ?_|((first|refine rg 18 [] [6] [] ?_|refine nc ?_);simp (maxSteps:=1000000) [hF])
     (try refine nr ?_);(repeat first|refine nb_ ?_|refine nl_ ?_);refine endK.o [6] [0,1] [(1,[.d])] ?_;simp [hF,retK,covers,mpre,dR,dO]
     exact ⟨kn,lst,hM,hmo,rfl,rfl⟩
    | some o =>
     rw [ho] at hord
     have hol:=ord_len B hul ho
     have hos:=ordOf_spec B hul ho
     have happ:=dLs_app1 acc2 o
     have b1:(acc2.length + 1) * 24≤140737488355328:=by omega
     have b2:acc2.length + 1≤9223372036854775807:=by omega
     refine (hfind.yes hul u2 hM ho).go [(0,[]),(1,[])] (by simp (maxSteps:=1000000) [hF,dR,dO]) ?_;rintro av X κ ⟨kn,lst,hM,hmo2,hnl,rfl,rfl,rfl⟩;simp (maxSteps:=1000000) [hF,dR,dO]
     have hmo:=hmo.trans hmo2
     have hull:u < lst.length:=by rw [hM.ll];exact hul
     subst hal2
     repeat first|refine n2 ?_|refine n4 ?_|refine n5 ?_|((first|(refine dr 19 0 [0,1,2,7,8,9,11,12] [0,1,2,7,8,9,11,12] [] [⟨0,512,154742504910672534362390528,5⟩,⟨0,2,309485009821345068724781056,5⟩,⟨2,309485009821345068724781056,618970019642690137449562112,5⟩,⟨4,618970019642690137449562112,1237940039285380274899124224,5⟩,⟨8,1237940039285380274899124224,2475880078570760549798248448,6⟩,⟨0,2048,4951760157141521099596496896,5⟩,⟨0,4096,9903520314283042199192993792,5⟩,⟨96,14855280471424563298789490688,19807040628566084398385987584,5⟩,⟨128,19807040628566084398385987584,39614081257132168796771975168,6⟩,⟨272,42089961335702929346570223616,79228162514264337593543950336,5⟩,⟨512,79228162514264337593543950336,158456325028528675187087900672,6⟩,⟨1024,158456325028528675187087900672,316912650057057350374175801344,4⟩,⟨2049,317067392561968022908538191872,633825300114114700748351602688,0⟩,⟨8191,633825300114114700748351602688,512,5⟩] (.take 0 (.take 1 (.take 2 (.take 3 (.take 4 (.take 5 (.take 6 (.take 7 (.take 8 (.take 9 (.take 10 (.fork (.alt 11 (.fork (.alt 12 (.take 13 (.done)) (.nil))) (.nil)))))))))))))) (.run [0,1,2,3,4,5,6,7,8,9,10,11,12,13] (.done)) ?_;simp only [drs])|refine nc ?_);simp (maxSteps:=1000000) [hF,hbn,hil2,hnl,hull,happ,b1,b2])
     refine VS.widen [(1,[.d])] (by simp [covers,mpre]) ?_
     repeat first|refine n4 ?_|refine n6 ?_|((refine rg 16 [0,1,2,7,8,9,11,12] [0,1,2,7,8,9,11,12] [] ?_);simp (maxSteps:=1000000) [hF])
     refine nextK.of [0,1,2,7,8,9,11,12] [0,1,2,3,4] (m - 1) (by omega) (by simp [hF]) ?_
     refine ⟨acc2.length + 1,acc2 ++ [o],kn,lst,by omega,by simp,fun y hy=>?_,hM,hmo,?_,?_⟩
     ·rcases List.mem_append.1 hy with hy | hy
      ·exact hacc2 y hy
      ·simp only [List.mem_singleton] at hy;subst hy;exact ⟨hol,fun v hv=>(hos.2.2 v hv).1⟩
     ·rw [hord];simp [Option.map_map,Function.comp_def]
     ·simp [dR,dO,dTc]
      exact IntWalk.i64_in _ (by omega)
   ·obtain rfl:i = (parents x).length:=by omega
    have hord3:ordersOf (ordOf R) (parents x) = some acc2:=by rw [hord,List.drop_length];simp [ordersOf]
    clear hord
    have mg:∀ (things:List Int) (a:List (List Int)),ordersOf (ordOf R) things = some a→(∀ y∈a,y.length≤1000∧∀ v∈y,0≤v)→(∀ u∈things,0≤u∧u < R.length∧r u < n)→things.length≤1000→a.length = things.length→mergedF (ordOf R) things = mergeOf (a ++ [things]) ∧
      (a ++ [things]).length = things.length + 1∧(a ++ [things]).length≤10000∧total (a ++ [things])≤100000000∧∀ y∈a ++ [things],∀ v∈y,0≤v:=by
     intro things a h1 h2 h3 h4 h5
     have h6:∀ y∈a ++ [things],y.length≤1000∧∀ v∈y,0≤v:=fun y hy=>by
      rcases List.mem_append.1 hy with hy | hy
      ·exact h2 y hy
      ·simp only [List.mem_singleton] at hy;subst hy;exact ⟨h4,fun v hv=>(h3 v hv).1⟩
     have h7:(a ++ [things]).length = things.length + 1:=by simp [h5]
     have h8:=total_bound fun y hy=>(h6 y hy).1
     exact ⟨by unfold mergedF;rw [h1];rfl,h7,by omega,by omega,fun y hy=>(h6 y hy).2⟩
    obtain ⟨f1,f2,f3,f4,f5⟩:=mg x.bef acc hord2 hacc hthb (by omega) hal
    obtain ⟨g1,g2,g3,g4,g5⟩:=mg (parents x) acc2 hord3 hacc2 hthp (by omega) hal2
    have hm1:=Merge_ok (acc ++ [x.bef]) f3 f4 f5
    have hm2:=Merge_ok (acc2 ++ [parents x]) g3 g4 g5
    rw [f2,←f1] at hm1
    rw [g2,←g1] at hm2
    have happ1:=dLs_app1 acc x.bef
    have happ2:=dLs_app1 acc2 (parents x)
    have b1:(x.bef.length + 1) * 24≤140737488355328:=by omega
    have b2:x.bef.length + 1≤9223372036854775807:=by omega
    have d1:((parents x).length + 1) * 24≤140737488355328:=by omega
    have d2:(parents x).length + 1≤9223372036854775807:=by omega
    have hq1:(dLs acc).mid 0 x.bef.length = dLs acc:=by rw [←hal];exact dLs_mid_all acc
    have hq2:(dLs acc2).mid 0 (parents x).length = dLs acc2:=by rw [←hal2];exact dLs_mid_all acc2
    repeat first|refine n1 ?_|refine n7 ?_|((refine rg 20 [1,2,7,8,9,11] [1,2,9,11,13,14] [] ?_);simp (maxSteps:=1000000) [hF,happ1,b1,b2,hq1])
    cases hf:mergedF (ordOf R) x.bef with
    | none =>
     rw [hf] at hstep hm1
     simp only at hstep hm1
     rw [hstep]
     refine (hm1).go [(3,[])] (by simp (maxSteps:=1000000) [hF,dLs_len]) ?_;rintro av X κ ⟨rfl,rfl,rfl⟩;simp (maxSteps:=1000000) [hF,dLs_len]
     repeat first|refine n1 ?_|((first|refine rg 21 [1,2,9,11,13,14] [1,2,9,11,13,110] [] ?_|refine rg 22 [] [6] [] ?_|refine nc ?_);simp (maxSteps:=1000000) [hF])
     (try refine nr ?_);(repeat first|refine nb_ ?_|refine nl_ ?_);refine endK.o [6] [0,1] [(1,[.d])] ?_;simp [hF,retK,covers,mpre,dR,dO]
     exact ⟨kn,lst,hM,hmo,rfl,rfl⟩
    | some front =>
     rw [hf] at hstep hm1
     simp only at hstep hm1
     obtain ⟨fn1,fn2,fn3⟩:=merged_len B (fun u hu=>⟨(hthb u hu).1,(hthb u hu).2.1⟩) hnb hf
     refine (hm1).go [(3,[])] (by simp (maxSteps:=1000000) [hF,dLs_len]) ?_;rintro av X κ ⟨rfl,rfl,rfl⟩;simp (maxSteps:=1000000) [hF,dLs_len]
     refine VS.pick [1,2,9,11,13,14] [0,1,4,6] (by simp [hF]) ?_;simp [hF]
     repeat first|refine n1 ?_|refine n2 ?_|((first|refine rg 21 [1,2,9,11,13,14] [1,2,9,11,13,110] [] ?_|refine rg 23 [1,2,9,11,13] [1,2,13,15,16] [] ?_|refine nc ?_);simp (maxSteps:=1000000) [hF,happ2,d1,d2,hq2])
     cases hb:mergedF (ordOf R) (parents x) with
     | none =>
      rw [hb] at hstep hm2
      simp only at hstep hm2
      rw [hstep]
      refine (hm2).go [(2,[])] (by simp (maxSteps:=1000000) [hF,dLs_len]) ?_;rintro av X κ ⟨rfl,rfl,rfl⟩;simp (maxSteps:=1000000) [hF,dLs_len]
      repeat first|refine n1 ?_|((first|refine rg 24 [1,2,13,15,16] [1,2,13,15,120] [] ?_|refine rg 25 [] [6] [] ?_|refine nc ?_);simp (maxSteps:=1000000) [hF])
      (try refine nr ?_);(repeat first|refine nb_ ?_|refine nl_ ?_);refine endK.o [6] [0,1] [(1,[.d])] ?_;simp [hF,retK,covers,mpre,dR,dO]
      exact ⟨kn,lst,hM,hmo,rfl,rfl⟩
     | some behind =>
      rw [hb] at hstep hm2
      simp only at hstep hm2
      obtain ⟨bn1,bn2,bn3⟩:=merged_len B (fun u hu=>⟨(hthp u hu).1,(hthp u hu).2.1⟩) hnp hb
      refine (hm2).go [(2,[])] (by simp (maxSteps:=1000000) [hF,dLs_len]) ?_;rintro av X κ ⟨rfl,rfl,rfl⟩;simp (maxSteps:=1000000) [hF,dLs_len]
      refine VS.widen [(1,[.d]),(3,[.d,.d,.d])] (by simp [covers,mpre]) ?_
      have hfr1:=dInts_app1 front t
      have hfm:(dInts (front ++ [(t:Int)])).mid 0 front.length = dInts front:=by rw [dInts_mid];simp
      have e1:(front.length + 1) * 8≤140737488355328:=by omega
      have e2:front.length + 1≤9223372036854775807:=by omega
      have htl:t < lst.length:=by rw [hM.ll];exact ht
      have hwl:(withoutF behind front).length≤1000:=by
       have:(withoutF behind front).length≤behind.length:=by unfold withoutF;exact List.length_filter_le _ _
       omega
      have hst2:ordOf R t = some (front ++ [(t:Int)] ++ withoutF behind front):=hstep
      have hapw:=dInts_app (front ++ [(t:Int)]) (withoutF behind front)
      generalize hw:withoutF behind front = w at *
      have w1:(front.length + 1 + w.length) * 8≤140737488355328:=by omega
      have w2:front.length + 1 + w.length≤9223372036854775807:=by omega
      have hfull:front ++ [(t:Int)] ++ w = front ++ (t:Int) :: w:=by simp
      rw [hfull] at hst2 hapw
      have hnw:((dOs lst).nth t).width = 1:=by rw [dOs_nth htl];rfl
      have hmw:(dInts (front ++ (t:Int) :: w)).mid 0 (front.length + 1 + w.length) = dInts (front ++ (t:Int) :: w):=sq_mid_all _ _ (by simp;omega)
      have hseti:=dOs_set lst t true (front ++ (t:Int) :: w)
      have hnthw:(dOs (lst.set t (true,front ++ (t:Int) :: w))).nth t = .sl true () 1 (dInts (front ++ (t:Int) :: w)):=by rw [dOs_nth (by simpa using htl)];simp
      have hsetw:=dOs_set (lst.set t (true,front ++ (t:Int) :: w)) t false (front ++ (t:Int) :: w)
      rw [List.set_set] at hsetw
      have htk:t < kn.length:=by rw [hM.kl];exact ht
      have hkset:=dBs_set kn t true
      have hkn2:=dBs_nth htk
      have hfinal:∃ kn' lst',MemoR R kn' lst'∧Mono kn0 kn'∧(dBs (kn.set t true) = dBs kn'∧dOs (lst.set t (false,front ++ (t:Int) :: w)) = dOs lst')∧kn'[t]? = some true:=by
       refine ⟨_,_,⟨by simpa using hM.kl,by simpa using hM.ll,fun i hi hk=>?_⟩,fun j hj=>?_,⟨rfl,rfl⟩,by simp [htk]⟩
       ·by_cases hit:t = i
        ·subst hit
         exact ⟨_,hst2,by simp⟩
        ·simp only [List.getElem_set_ne hit] at hk ⊢
         exact hM.ok i hi hk
       ·have:=hmo j hj
        by_cases hjt:t = j
        ·subst hjt;simp [htk]
        ·rw [List.getElem?_set_ne hjt];exact this
      rw [hst2]
      repeat first|refine n1 ?_|refine n2 ?_|((first|refine rg 24 [1,2,13,15,16] [1,2,13,15,120] [] ?_|(refine dr 26 0 [1,2,13,15] [1,2] [] [⟨0,2,2658455991569831745807614120560689152,5⟩,⟨1,2658455991569831745807614120560689152,5316911983139663491615228241121378304,5⟩,⟨2,5316911983139663491615228241121378304,10633823966279326983230456482242756608,5⟩,⟨4,10633823966279326983230456482242756608,21267647932558653966460912964485513216,6⟩,⟨0,4,42535295865117307932921825928971026432,5⟩,⟨0,8192,85070591730234615865843651857942052864,5⟩,⟨0,4,170141183460469231731687303715884105728,5⟩,⟨64,170141183460469231731687303715884105728,340282366920938463463374607431768211456,4⟩,⟨160,425352958651173079329218259289710264320,680564733841876926926749214863536422912,0⟩,⟨0,32768,1361129467683753853853498429727072845824,5⟩,⟨0,8192,2722258935367507707706996859454145691648,5⟩,⟨1792,4083388403051261561560495289181218537472,5444517870735015415413993718908291383296,0⟩,⟨2304,6125082604576892342340742933771827806208,10889035741470030830827987437816582766592,0⟩,⟨8191,63802943797675961899382738893456539648,21778071482940061661655974875633165533184,5⟩,⟨16383,32667107224410092492483962313449748299776,0,0⟩] (.take 0 (.take 1 (.take 2 (.take 4 (.take 5 (.take 6 (.take 9 (.take 10 (.fork (.alt 3 (.fork (.alt 7 (.fork (.alt 8 (.fork (.alt 11 (.fork (.alt 12 (.take 13 (.fork (.alt 14 (.done) (.nil)))) (.nil))) (.nil))) (.nil))) (.nil))) (.alt 7 (.fork (.alt 3 (.fork (.alt 8 (.fork (.alt 11 (.fork (.alt 12 (.take 13 (.fork (.alt 14 (.done) (.nil)))) (.nil))) (.nil))) (.nil))) (.alt 8 (.fork (.alt 3 (.fork (.alt 11 (.fork (.alt 12 (.take 13 (.fork (.alt 14 (.done) (.nil)))) (.nil))) (.nil))) (.alt 11 (.fork (.alt 3 (.fork (.alt 12 (.take 13 (.fork (.alt 14 (.done) (.nil)))) (.nil))) (.alt 12 (.take 3 (.take 13 (.fork (.alt 14 (.done) (.nil))))) (.nil)))) (.nil)))) (.nil)))) (.nil)))))))))))) (.run [0,1,2,4,5,6,9,10] (.both (.run [3,7,8,11,12,13,14] (.done)) (.run [7] (.both (.run [3,8,11,12,13,14] (.done)) (.run [8] (.both (.run [3,11,12,13,14] (.done)) (.run [11] (.both (.run [3,12,13,14] (.done)) (.run [12,3,13,14] (.done)))))))))) ?_;simp only [drs])|refine nc ?_);simp (maxSteps:=1000000) [hF,dO,hfr1,hfm,e1,e2,htl])
      repeat' apply And.intro
      ·refine (without_pp false false behind front [] (by omega) (by omega)).go [(3,[]),(5,[])] (by simp (maxSteps:=1000000) [hF,dR,dO,hw,hapw,w1,w2,htl,hfm,hseti,hfr1,hnw,hmw]) ?_;rintro av X κ ⟨rfl,rfl,rfl⟩;simp (maxSteps:=1000000) [hF,dR,dO,hw,hapw,w1,w2,htl,hfm,hseti,hfr1,hnw,hmw]
       repeat first|refine n1 ?_
       refine VS.cold 1 [.d,.f 1,.i t] (by simp (maxSteps:=1000000) [hF,T.freeze,htl,hnthw,hsetw]) (by simp (maxSteps:=1000000) [hF,T.freeze,htl,hnthw,hsetw]) (by simp (maxSteps:=1000000) [hF,T.freeze,htl,hnthw,hsetw]) ?_;simp [hF,St.cold,T.freeze,htl,hnthw,hsetw]
       refine VS.unmark [(1,[.d,.f 1,.i t]),(1,[.d,.f 1,.i t]),(1,[.d])] (by simp [hF]) ?_
       repeat first|refine n1 ?_|((first|refine rg 27 [1,2] [] [] ?_|refine rg 28 [] [6] [] ?_);simp (maxSteps:=1000000) [hF,htk,hkset,hkn2])
       (try refine nr ?_);(repeat first|refine nb_ ?_|refine nl_ ?_);refine endK.o [6] [0,1] [(1,[.d])] ?_;simp [hF,retK,covers,mpre,dR,dO]
       exact hfinal
      ·refine (without_pp false false behind front [(t:Int)] (by omega) (by omega)).go [(3,[]),(5,[])] (by simp (maxSteps:=1000000) [hF,dR,dO,hw,hapw,w1,w2,htl,hfm,hseti,hfr1,hnw,hmw]) ?_;rintro av X κ ⟨rfl,rfl,rfl⟩;simp (maxSteps:=1000000) [hF,dR,dO,hw,hapw,w1,w2,htl,hfm,hseti,hfr1,hnw,hmw]
       repeat first|refine n1 ?_
       refine VS.cold 1 [.d,.f 1,.i t] (by simp (maxSteps:=1000000) [hF,T.freeze,htl,hnthw,hsetw]) (by simp (maxSteps:=1000000) [hF,T.freeze,htl,hnthw,hsetw]) (by simp (maxSteps:=1000000) [hF,T.freeze,htl,hnthw,hsetw]) ?_;simp [hF,St.cold,T.freeze,htl,hnthw,hsetw]
       refine VS.unmark [(1,[.d,.f 1,.i t]),(1,[.d,.f 1,.i t]),(1,[.d])] (by simp [hF]) ?_
       repeat first|refine n1 ?_|((first|refine rg 27 [1,2] [] [] ?_|refine rg 28 [] [6] [] ?_);simp (maxSteps:=1000000) [hF,htk,hkset,hkn2])
       (try refine nr ?_);(repeat first|refine nb_ ?_|refine nl_ ?_);refine endK.o [6] [0,1] [(1,[.d])] ?_;simp [hF,retK,covers,mpre,dR,dO]
       exact hfinal
      ·refine (without_pp false false behind front [] (by omega) (by omega)).go [(3,[]),(5,[])] (by simp (maxSteps:=1000000) [hF,dR,dO,hw,hapw,w1,w2,htl,hfm,hseti,hfr1,hnw,hmw]) ?_;rintro av X κ ⟨rfl,rfl,rfl⟩;simp (maxSteps:=1000000) [hF,dR,dO,hw,hapw,w1,w2,htl,hfm,hseti,hfr1,hnw,hmw]
       repeat first|refine n1 ?_
       refine VS.cold 1 [.d,.f 1,.i t] (by simp (maxSteps:=1000000) [hF,T.freeze,htl,hnthw,hsetw]) (by simp (maxSteps:=1000000) [hF,T.freeze,htl,hnthw,hsetw]) (by simp (maxSteps:=1000000) [hF,T.freeze,htl,hnthw,hsetw]) ?_;simp [hF,St.cold,T.freeze,htl,hnthw,hsetw]
       refine VS.unmark [(1,[.d,.f 1,.i t]),(1,[.d,.f 1,.i t]),(1,[.d])] (by simp [hF]) ?_
       repeat first|refine n1 ?_|((first|refine rg 27 [1,2] [] [] ?_|refine rg 28 [] [6] [] ?_);simp (maxSteps:=1000000) [hF,htk,hkset,hkn2])
       (try refine nr ?_);(repeat first|refine nb_ ?_|refine nl_ ?_);refine endK.o [6] [0,1] [(1,[.d])] ?_;simp [hF,retK,covers,mpre,dR,dO]
       exact hfinal
      ·refine (without_pp false false behind front [(t:Int)] (by omega) (by omega)).go [(3,[]),(5,[])] (by simp (maxSteps:=1000000) [hF,dR,dO,hw,hapw,w1,w2,htl,hfm,hseti,hfr1,hnw,hmw]) ?_;rintro av X κ ⟨rfl,rfl,rfl⟩;simp (maxSteps:=1000000) [hF,dR,dO,hw,hapw,w1,w2,htl,hfm,hseti,hfr1,hnw,hmw]
       repeat first|refine n1 ?_
       refine VS.cold 1 [.d,.f 1,.i t] (by simp (maxSteps:=1000000) [hF,T.freeze,htl,hnthw,hsetw]) (by simp (maxSteps:=1000000) [hF,T.freeze,htl,hnthw,hsetw]) (by simp (maxSteps:=1000000) [hF,T.freeze,htl,hnthw,hsetw]) ?_;simp [hF,St.cold,T.freeze,htl,hnthw,hsetw]
       refine VS.unmark [(1,[.d,.f 1,.i t]),(1,[.d,.f 1,.i t]),(1,[.d])] (by simp [hF]) ?_
       repeat first|refine n1 ?_|((first|refine rg 27 [1,2] [] [] ?_|refine rg 28 [] [6] [] ?_);simp (maxSteps:=1000000) [hF,htk,hkset,hkn2])
       (try refine nr ?_);(repeat first|refine nb_ ?_|refine nl_ ?_);refine endK.o [6] [0,1] [(1,[.d])] ?_;simp [hF,retK,covers,mpre,dR,dO]
       exact hfinal
      ·refine (without_pp false false behind front [] (by omega) (by omega)).go [(3,[]),(5,[])] (by simp (maxSteps:=1000000) [hF,dR,dO,hw,hapw,w1,w2,htl,hfm,hseti,hfr1,hnw,hmw]) ?_;rintro av X κ ⟨rfl,rfl,rfl⟩;simp (maxSteps:=1000000) [hF,dR,dO,hw,hapw,w1,w2,htl,hfm,hseti,hfr1,hnw,hmw]
       repeat first|refine n1 ?_
       refine VS.cold 1 [.d,.f 1,.i t] (by simp (maxSteps:=1000000) [hF,T.freeze,htl,hnthw,hsetw]) (by simp (maxSteps:=1000000) [hF,T.freeze,htl,hnthw,hsetw]) (by simp (maxSteps:=1000000) [hF,T.freeze,htl,hnthw,hsetw]) ?_;simp [hF,St.cold,T.freeze,htl,hnthw,hsetw]
       refine VS.unmark [(1,[.d,.f 1,.i t]),(1,[.d,.f 1,.i t]),(1,[.d])] (by simp [hF]) ?_
       repeat first|refine n1 ?_|((first|refine rg 27 [1,2] [] [] ?_|refine rg 28 [] [6] [] ?_);simp (maxSteps:=1000000) [hF,htk,hkset,hkn2])
       (try refine nr ?_);(repeat first|refine nb_ ?_|refine nl_ ?_);refine endK.o [6] [0,1] [(1,[.d])] ?_;simp [hF,retK,covers,mpre,dR,dO]
       exact hfinal
      ·refine (without_pp false false behind front [] (by omega) (by omega)).go [(3,[]),(5,[])] (by simp (maxSteps:=1000000) [hF,dR,dO,hw,hapw,w1,w2,htl,hfm,hseti,hfr1,hnw,hmw]) ?_;rintro av X κ ⟨rfl,rfl,rfl⟩;simp (maxSteps:=1000000) [hF,dR,dO,hw,hapw,w1,w2,htl,hfm,hseti,hfr1,hnw,hmw]
       repeat first|refine n1 ?_
       refine VS.cold 1 [.d,.f 1,.i t] (by simp (maxSteps:=1000000) [hF,T.freeze,htl,hnthw,hsetw]) (by simp (maxSteps:=1000000) [hF,T.freeze,htl,hnthw,hsetw]) (by simp (maxSteps:=1000000) [hF,T.freeze,htl,hnthw,hsetw]) ?_;simp [hF,St.cold,T.freeze,htl,hnthw,hsetw]
       refine VS.unmark [(1,[.d,.f 1,.i t]),(1,[.d,.f 1,.i t]),(1,[.d])] (by simp [hF]) ?_
       repeat first|refine n1 ?_|((first|refine rg 27 [1,2] [] [] ?_|refine rg 28 [] [6] [] ?_);simp (maxSteps:=1000000) [hF,htk,hkset,hkn2])
       (try refine nr ?_);(repeat first|refine nb_ ?_|refine nl_ ?_);refine endK.o [6] [0,1] [(1,[.d])] ?_;simp [hF,retK,covers,mpre,dR,dO]
       exact hfinal
      ·refine (without_pp false false behind front [(t:Int)] (by omega) (by omega)).go [(3,[]),(5,[])] (by simp (maxSteps:=1000000) [hF,dR,dO,hw,hapw,w1,w2,htl,hfm,hseti,hfr1,hnw,hmw]) ?_;rintro av X κ ⟨rfl,rfl,rfl⟩;simp (maxSteps:=1000000) [hF,dR,dO,hw,hapw,w1,w2,htl,hfm,hseti,hfr1,hnw,hmw]
       repeat first|refine n1 ?_
       refine VS.cold 1 [.d,.f 1,.i t] (by simp (maxSteps:=1000000) [hF,T.freeze,htl,hnthw,hsetw]) (by simp (maxSteps:=1000000) [hF,T.freeze,htl,hnthw,hsetw]) (by simp (maxSteps:=1000000) [hF,T.freeze,htl,hnthw,hsetw]) ?_;simp [hF,St.cold,T.freeze,htl,hnthw,hsetw]
       refine VS.unmark [(1,[.d,.f 1,.i t]),(1,[.d,.f 1,.i t]),(1,[.d])] (by simp [hF]) ?_
       repeat first|refine n1 ?_|((first|refine rg 27 [1,2] [] [] ?_|refine rg 28 [] [6] [] ?_);simp (maxSteps:=1000000) [hF,htk,hkset,hkn2])
       (try refine nr ?_);(repeat first|refine nb_ ?_|refine nl_ ?_);refine endK.o [6] [0,1] [(1,[.d])] ?_;simp [hF,retK,covers,mpre,dR,dO]
       exact hfinal
      ·refine (without_pp false false behind front [(t:Int)] (by omega) (by omega)).go [(3,[]),(5,[])] (by simp (maxSteps:=1000000) [hF,dR,dO,hw,hapw,w1,w2,htl,hfm,hseti,hfr1,hnw,hmw]) ?_;rintro av X κ ⟨rfl,rfl,rfl⟩;simp (maxSteps:=1000000) [hF,dR,dO,hw,hapw,w1,w2,htl,hfm,hseti,hfr1,hnw,hmw]
       repeat first|refine n1 ?_
       refine VS.cold 1 [.d,.f 1,.i t] (by simp (maxSteps:=1000000) [hF,T.freeze,htl,hnthw,hsetw]) (by simp (maxSteps:=1000000) [hF,T.freeze,htl,hnthw,hsetw]) (by simp (maxSteps:=1000000) [hF,T.freeze,htl,hnthw,hsetw]) ?_;simp [hF,St.cold,T.freeze,htl,hnthw,hsetw]
       refine VS.unmark [(1,[.d,.f 1,.i t]),(1,[.d,.f 1,.i t]),(1,[.d])] (by simp [hF]) ?_
       repeat first|refine n1 ?_|((first|refine rg 27 [1,2] [] [] ?_|refine rg 28 [] [6] [] ?_);simp (maxSteps:=1000000) [hF,htk,hkset,hkn2])
       (try refine nr ?_);(repeat first|refine nb_ ?_|refine nl_ ?_);refine endK.o [6] [0,1] [(1,[.d])] ?_;simp [hF,retK,covers,mpre,dR,dO]
       exact hfinal
theorem rfind_all {R:List Th} {r:Int→Nat} (B:Base R r):∀ n,FindOkR R r n
 | 0=>fun _ _ h=>by omega
 | n + 1=>fun t ht hr kn lst hM=>rfind_step B (rfind_all B n) t ht hr kn lst hM
theorem rfind_ok {R:List Th} {r:Int→Nat} (B:Base R r) (t:Nat) (ht:t < R.length) (kn:List Bool) (lst:List (Bool×List Int)) (hM:MemoR R kn lst) :
  Meets Tryz.prog 136 [dR R,dO kn lst] (.cons (.ptr 0 [.d]) (.cons (.ptr 1 [.d]) (.cons (avInt t) .nil))) (FindRR R t kn):=rfind_all B (r t + 1) t ht (by omega) kn lst hM
end Go.Proofs.YtbhigdljojlhnaaGreat

/- The program's lineage and the document's. -/
namespace Go.Proofs.YtbhigdljojlhnaaGreat
set_option linter.all false
open Go.Vc Go.Proofs
structure LR (L R:List Th):Prop where
 len:R.length = L.length
 th:∀ t:Nat,t < L.length→(thAt R t).kind = (thAt L t).kind∧(thAt R t).sup = (thAt L t).sup∧(thAt R t).obj = (thAt L t).obj∧(thAt R t).bef = (thAt L t).bef∧(thAt R t).ins = (thAt L t).ins
 own:∀ t i:Nat,t < L.length→i < L.length→((thAt R i).kind = 2∧(thAt R i).own = t↔(thAt L t).own = i)
 rng:∀ i:Nat,i < L.length→(thAt R i).kind = 2→0≤(thAt R i).own∧(thAt R i).own < L.length
theorem LR.val_eq {L R:List Th} (h:LR L R) (t:Int):val R t = val L t:=by unfold val;rw [h.len]
theorem LR.same {L R:List Th} (h:LR L R) (t:Nat) (x:Th) (hx:L[t]? = some x):∃ x',R[t]? = some x'∧x'.bef = x.bef∧parents x' = parents x:=by
 have ht:t < L.length:=(List.getElem?_eq_some_iff.1 hx).1
 have ht2:t < R.length:=by rw [h.len];exact ht
 obtain ⟨h1,h2,h3,h4,h5⟩:=h.th t ht
 rw [thAt_get hx] at h1 h2 h3 h4 h5
 have hr:R[t]? = some R[t]:=List.getElem?_eq_getElem ht2
 rw [thAt_get hr] at h1 h2 h3 h4 h5
 exact ⟨_,hr,h4,by unfold parents;rw [h5,h2]⟩
theorem LR.ordOf_eq {L R:List Th} (h:LR L R) (W:WFL L) {t:Nat} (ht:t < L.length):ordOf R t = ordOf L t:=by
 obtain ⟨r,B⟩:=W.base
 exact ordOf_same B h.same ht
theorem LR.ordL_eq {L R:List Th} (h:LR L R) (W:WFL L) {t:Nat} (ht:t < L.length):ordL R t = ordL L t:=by
 unfold ordL;rw [h.ordOf_eq W ht]
theorem LR.base {L R:List Th} (h:LR L R) {r:Int→Nat} (B:Base L r):Base R r:=by
 have hb:∀ (t:Nat) (y:Th),R[t]? = some y→∃ x,L[t]? = some x∧y.bef = x.bef∧parents y = parents x:=fun t y hy=>by
  have ht2:t < R.length:=(List.getElem?_eq_some_iff.1 hy).1
  have ht:t < L.length:=by rw [←h.len];exact ht2
  obtain ⟨x',q1,q2,q3⟩:=h.same t _ (List.getElem?_eq_getElem ht)
  rw [hy] at q1
  cases q1
  exact ⟨_,List.getElem?_eq_getElem ht,q2,q3⟩
 refine ⟨fun t y hy u hu=>?_,fun t y hy=>?_,fun t y hy=>?_,by rw [h.len];exact B.len⟩
 ·obtain ⟨x,hx,e1,e2⟩:=hb t y hy
  rw [e1,e2] at hu
  rw [h.len]
  exact B.edge t x hx u hu
 ·obtain ⟨x,hx,e1,e2⟩:=hb t y hy
  rw [e1];exact B.nb t x hx
 ·obtain ⟨x,hx,e1,e2⟩:=hb t y hy
  rw [e2];exact B.np t x hx
theorem LR.wf {L R:List Th} (h:LR L R) (W:WFL L):WFL R:=by
 refine ⟨W.base.elim fun r B=>⟨r,h.base B⟩,fun t ht=>?_⟩
 have ht':t < L.length:=by rw [←h.len];exact ht
 rw [h.ordOf_eq W ht']
 exact W.full t ht'
theorem LR_L0:LR L0 L0:=by
 have h0:∀ t:Nat,t < L0.length→t = 0:=fun t ht=>by simp [L0] at ht;omega
 refine ⟨rfl,fun t ht=>⟨rfl,rfl,rfl,rfl,rfl⟩,fun t i ht hi=>?_,fun i hi=>?_⟩
 ·obtain rfl:=h0 t ht
  obtain rfl:=h0 i hi
  simp [thAt,L0]
 ·obtain rfl:=h0 i hi
  simp [thAt,L0]
theorem thAt_old {L:List Th} {x:Th} {t:Nat} (h:t < L.length):thAt (L ++ [x]) t = thAt L t:=by
 rw [thAt_eq (by simp;omega),thAt_eq h,List.getElem_append_left h]
theorem thAt_new {L:List Th} {x:Th}:thAt (L ++ [x]) (L.length:Int) = x:=by
 rw [thAt_eq (by simp)];simp
theorem LR.add {L R:List Th} (h:LR L R) (hL:OK L) (k s o:Int) (hk:k≠2):LR (L ++ [newTh k s o]) (R ++ [newTh k s o]):=by
 have hlen:=h.len
 have hnew:thAt (R ++ [newTh k s o]) (L.length:Int) = newTh k s o:=by rw [←hlen];exact thAt_new
 have hown:∀ t:Nat,t < L.length→(thAt L t).own < L.length:=fun t ht=>by
  by_cases h0:0≤(thAt L t).own
  ·exact (hL.own t _ (get_thAt (u:=(t:Int)) (by omega) (by omega)) h0).1
  ·omega
 refine ⟨by simp [hlen],fun t ht=>?_,fun t i ht hi=>?_,fun i hi hk2=>?_⟩
 ·rw [List.length_append,List.length_singleton] at ht
  by_cases e:t = L.length
  ·subst e;rw [hnew,thAt_new];exact ⟨rfl,rfl,rfl,rfl,rfl⟩
  ·rw [thAt_old (by omega),thAt_old (by omega)];exact h.th t (by omega)
 ·rw [List.length_append,List.length_singleton] at ht hi
  by_cases e:i = L.length
  ·subst e
   rw [hnew]
   refine ⟨fun hh=>absurd hh.1 hk,fun hh=>?_⟩
   by_cases e2:t = L.length
   ·subst e2;rw [thAt_new] at hh;simp [newTh] at hh
   ·rw [thAt_old (by omega)] at hh
    have:=hown t (by omega);omega
  ·rw [thAt_old (L:=R) (by omega)]
   by_cases e2:t = L.length
   ·subst e2
    rw [thAt_new]
    refine ⟨fun hh=>?_,fun hh=>by simp [newTh] at hh⟩
    have:=h.rng i (by omega) hh.1
    omega
   ·rw [thAt_old (by omega)];exact h.own t i (by omega) (by omega)
 ·rw [List.length_append,List.length_singleton] at hi ⊢
  by_cases e:i = L.length
  ·subst e;rw [hnew] at hk2;exact absurd hk2 hk
  ·rw [thAt_old (by omega)] at hk2 ⊢
   have:=h.rng i (by omega) hk2
   exact ⟨this.1,by push_cast;omega⟩
theorem LR.cls {L R:List Th} (h:LR L R) (hL:OK L) (s:Int):(classOf R s).2 = (classOf L s).2∧LR (classOf L s).1 (classOf R s).1:=by
 have hk:(val R s && decide ((thAt R s).kind = 0)) = (val L s && decide ((thAt L s).kind = 0)):=by
  rw [h.val_eq]
  cases hv:val L s with
  | false=>rfl
  | true =>
   obtain ⟨s,rfl,hs⟩:=val_nat hv
   rw [(h.th s hs).1]
 unfold classOf
 rw [hk,h.len]
 split
 ·exact ⟨rfl,h⟩
 ·split
  ·exact ⟨rfl,h⟩
  ·exact ⟨rfl,h.add hL 0 s (-1) (by decide)⟩
theorem LR.mdl {L R:List Th} (h:LR L R) (hL:OK L):(moduleOf R).2 = (moduleOf L).2∧LR (moduleOf L).1 (moduleOf R).1:=by
 unfold moduleOf
 rw [h.len]
 split
 ·exact ⟨rfl,h⟩
 ·split
  ·exact ⟨rfl,h⟩
  ·exact ⟨rfl,h.add hL 1 (-1) (-1) (by decide)⟩
theorem thAt_set {L:List Th} {t:Nat} {x:Th} (ht:t < L.length) (k:Nat) (hk:k < L.length):thAt (L.set t x) k = if k = t then x else thAt L k:=by
 rw [thAt_eq (by simpa using hk)]
 by_cases h:k = t
 ·subst h;simp
 ·rw [if_neg h,List.getElem_set_ne (Ne.symm h),thAt_eq hk]
theorem LR.set {L R:List Th} (h:LR L R) {t:Nat} (ht:t < L.length) {x y:Th} (hx:y.kind = x.kind∧y.sup = x.sup∧y.obj = x.obj∧y.bef = x.bef∧y.ins = x.ins)
  (h1:x.own = (thAt L t).own) (h2:y.own = (thAt R t).own) (h3:y.kind = (thAt R t).kind):LR (L.set t x) (R.set t y):=by
 have htR:t < R.length:=by rw [h.len];exact ht
 refine ⟨by simp [h.len],fun k hk=>?_,fun k i hk hi=>?_,fun i hi hk2=>?_⟩
 ·rw [List.length_set] at hk
  rw [thAt_set htR k (by rw [h.len];exact hk),thAt_set ht k hk]
  by_cases e:k = t
  ·rw [if_pos e,if_pos e];exact hx
  ·rw [if_neg e,if_neg e];exact h.th k hk
 ·rw [List.length_set] at hk hi
  have e1:(thAt (R.set t y) i).kind = (thAt R i).kind∧(thAt (R.set t y) i).own = (thAt R i).own:=by
   rw [thAt_set htR i (by rw [h.len];exact hi)]
   by_cases e:i = t
   ·subst e;rw [if_pos rfl];exact ⟨h3,h2⟩
   ·rw [if_neg e];exact ⟨rfl,rfl⟩
  have e2:(thAt (L.set t x) k).own = (thAt L k).own:=by
   rw [thAt_set ht k hk]
   by_cases e:k = t
   ·subst e;rw [if_pos rfl];exact h1
   ·rw [if_neg e]
  rw [e1.1,e1.2,e2]
  exact h.own k i hk hi
 ·rw [List.length_set] at hi ⊢
  rw [thAt_set htR i (by rw [h.len];exact hi)] at hk2 ⊢
  by_cases e:i = t
  ·subst e
   rw [if_pos rfl] at hk2 ⊢
   rw [h2]
   exact h.rng i hi (by rw [←h3];exact hk2)
  ·rw [if_neg e] at hk2 ⊢
   exact h.rng i hi hk2
theorem LR.withI_ok {L R:List Th} (h:LR L R) {t:Nat} (ht:t < L.length) (l:List Int):LR (withI L t l) (withI R t l):=by
 have htR:t < R.length:=by rw [h.len];exact ht
 obtain ⟨h1,h2,h3,h4,h5⟩:=h.th t ht
 rw [thAt_eq ht,thAt_eq htR] at h1 h2 h3 h4 h5
 rw [withI_eq ht,withI_eq htR]
 exact h.set ht ⟨h1,h2,h3,h4,rfl⟩ (by rw [thAt_eq ht]) (by rw [thAt_eq htR]) (by rw [thAt_eq htR])
theorem LR.withP_ok {L R:List Th} (h:LR L R) {t:Nat} (ht:t < L.length) (l:List Int):LR (withP L t l) (withP R t l):=by
 have htR:t < R.length:=by rw [h.len];exact ht
 obtain ⟨h1,h2,h3,h4,h5⟩:=h.th t ht
 rw [thAt_eq ht,thAt_eq htR] at h1 h2 h3 h4 h5
 rw [withP_eq ht,withP_eq htR]
 exact h.set ht ⟨h1,h2,h3,rfl,h5⟩ (by rw [thAt_eq ht]) (by rw [thAt_eq htR]) (by rw [thAt_eq htR])
theorem LR.putI_eq {L R:List Th} (h:LR L R) (hL:OK L) (t m:Int):(putI R t m).2 = (putI L t m).2∧LR (putI L t m).1 (putI R t m).1:=by
 unfold putI
 by_cases hc:(val L t && (val L m && decide ((thAt L m).kind = 1))) = false
 ·have hc2:(val R t && (val R m && decide ((thAt R m).kind = 1))) = false:=by
   rw [h.val_eq,h.val_eq]
   cases hm:val L m with
   | false=>cases val L t <;> rfl
   | true =>
    obtain ⟨m,rfl,hml⟩:=val_nat hm
    rw [(h.th m hml).1,←hm];exact hc
  rw [if_pos hc,if_pos hc2]
  exact ⟨rfl,h⟩
 rw [if_neg hc]
 have hc':(val L t && (val L m && decide ((thAt L m).kind = 1))) = true:=by simpa using hc
 simp only [Bool.and_eq_true,decide_eq_true_eq] at hc'
 obtain ⟨ht,hm,hk⟩:=hc'
 obtain ⟨t,rfl,htl⟩:=val_nat ht
 obtain ⟨m,rfl,hml⟩:=val_nat hm
 have hr1:=h.th t htl
 have hr2:=h.th m hml
 rw [if_neg (by rw [h.val_eq,h.val_eq,ht,hm,hr2.1,hk];decide)]
 rw [hr1.2.2.2.2,h.ordL_eq hL.wf hml]
 by_cases hd:hasN (thAt L t).ins m = true
 ·rw [if_pos hd,if_pos hd];exact ⟨rfl,h⟩
 rw [if_neg hd,if_neg hd]
 by_cases hh:(m:Int) = t∨hasN (ordL L m) t = true
 ·rw [if_pos hh,if_pos hh];exact ⟨rfl,h⟩
 rw [if_neg hh,if_neg hh]
 simp only [not_or,Bool.not_eq_true] at hh hd
 have hW:=h.withI_ok htl ((m:Int) :: (thAt L t).ins)
 obtain ⟨r,B⟩:=baseI hL m t htl hm hk hd hh.2
 rw [show ((t:Int)).toNat = t from rfl]
 have hiff:(∀ k:Nat,k < L.length→∃ o,ordOf (withI L t ((m:Int) :: (thAt L t).ins)) k = some o)↔∀ k:Nat,k < R.length→∃ o,ordOf (withI R t ((m:Int) :: (thAt L t).ins)) k = some o:=by
  have hl:(withI L t ((m:Int) :: (thAt L t).ins)).length = L.length:=by simp [withI]
  have he:∀ k:Nat,k < L.length→ordOf (withI R t ((m:Int) :: (thAt L t).ins)) k = ordOf (withI L t ((m:Int) :: (thAt L t).ins)) k:=fun k hk=>ordOf_same B hW.same (by rw [hl];exact hk)
  rw [h.len]
  exact ⟨fun q k hk=>by rw [he k hk];exact q k hk,fun q k hk=>by rw [←he k hk];exact q k hk⟩
 by_cases ho:∀ k:Nat,k < L.length→∃ o,ordOf (withI L t ((m:Int) :: (thAt L t).ins)) k = some o
 ·rw [if_pos ho,if_pos (hiff.1 ho)]
  exact ⟨rfl,hW⟩
 ·rw [if_neg ho,if_neg fun q=>ho (hiff.2 q)]
  exact ⟨rfl,h⟩
theorem LR.putP_eq {L R:List Th} (h:LR L R) (hL:OK L) (t m:Int):(putP R t m).2 = (putP L t m).2∧LR (putP L t m).1 (putP R t m).1:=by
 unfold putP
 by_cases hc:(val L t && (val L m && decide ((thAt L m).kind = 1))) = false
 ·have hc2:(val R t && (val R m && decide ((thAt R m).kind = 1))) = false:=by
   rw [h.val_eq,h.val_eq]
   cases hm:val L m with
   | false=>cases val L t <;> rfl
   | true =>
    obtain ⟨m,rfl,hml⟩:=val_nat hm
    rw [(h.th m hml).1,←hm];exact hc
  rw [if_pos hc,if_pos hc2]
  exact ⟨rfl,h⟩
 rw [if_neg hc]
 have hc':(val L t && (val L m && decide ((thAt L m).kind = 1))) = true:=by simpa using hc
 simp only [Bool.and_eq_true,decide_eq_true_eq] at hc'
 obtain ⟨ht,hm,hk⟩:=hc'
 obtain ⟨t,rfl,htl⟩:=val_nat ht
 obtain ⟨m,rfl,hml⟩:=val_nat hm
 have hr1:=h.th t htl
 have hr2:=h.th m hml
 rw [if_neg (by rw [h.val_eq,h.val_eq,ht,hm,hr2.1,hk];decide)]
 rw [hr1.2.2.2.1,h.ordL_eq hL.wf hml]
 by_cases hd:hasN (thAt L t).bef m = true
 ·rw [if_pos hd,if_pos hd];exact ⟨rfl,h⟩
 rw [if_neg hd,if_neg hd]
 by_cases hh:(m:Int) = t∨hasN (ordL L m) t = true
 ·rw [if_pos hh,if_pos hh];exact ⟨rfl,h⟩
 rw [if_neg hh,if_neg hh]
 simp only [not_or,Bool.not_eq_true] at hh hd
 have hW:=h.withP_ok htl ((m:Int) :: (thAt L t).bef)
 obtain ⟨r,B⟩:=baseP hL m t htl hm hk hd hh.2
 rw [show ((t:Int)).toNat = t from rfl]
 have hiff:(∀ k:Nat,k < L.length→∃ o,ordOf (withP L t ((m:Int) :: (thAt L t).bef)) k = some o)↔∀ k:Nat,k < R.length→∃ o,ordOf (withP R t ((m:Int) :: (thAt L t).bef)) k = some o:=by
  have hl:(withP L t ((m:Int) :: (thAt L t).bef)).length = L.length:=by simp [withP]
  have he:∀ k:Nat,k < L.length→ordOf (withP R t ((m:Int) :: (thAt L t).bef)) k = ordOf (withP L t ((m:Int) :: (thAt L t).bef)) k:=fun k hk=>ordOf_same B hW.same (by rw [hl];exact hk)
  rw [h.len]
  exact ⟨fun q k hk=>by rw [he k hk];exact q k hk,fun q k hk=>by rw [←he k hk];exact q k hk⟩
 by_cases ho:∀ k:Nat,k < L.length→∃ o,ordOf (withP L t ((m:Int) :: (thAt L t).bef)) k = some o
 ·rw [if_pos ho,if_pos (hiff.1 ho)]
  exact ⟨rfl,hW⟩
 ·rw [if_neg ho,if_neg fun q=>ho (hiff.2 q)]
  exact ⟨rfl,h⟩
def isOwnOf (t:Int) (x:Th):Bool:=decide (x.kind = 2) && decide (x.own = t)
def ownIx (R:List Th) (t:Int):Int:=ixF (isOwnOf t) R
theorem LR.ownIx_yes {L R:List Th} (h:LR L R) (hL:OK L) {t:Nat} (ht:t < L.length) (h0:0≤(thAt L t).own):ownIx R t = (thAt L t).own:=by
 have h1:=(hL.own t _ (get_thAt (u:=(t:Int)) (by omega) (by omega)) h0).1
 obtain ⟨i,hi⟩:∃ i:Nat,(thAt L t).own = i:=⟨(thAt L t).own.toNat,by omega⟩
 rw [hi] at h1
 have hil:i < L.length:=by omega
 have hiR:i < R.length:=by rw [h.len];exact hil
 rw [hi]
 refine ixF_hit hiR (fun j hj=>?_) ?_
 ·have hjR:j < R.length:=by omega
  cases hb:isOwnOf t R[j] with
  | false=>rfl
  | true =>
   simp only [isOwnOf,Bool.and_eq_true,decide_eq_true_eq,←thAt_eq hjR] at hb
   have:=(h.own t j ht (by omega)).1 hb
   omega
 ·have:=(h.own t i ht hil).2 hi
  rw [thAt_eq hiR] at this
  simp [isOwnOf,this]
theorem LR.ownIx_no {L R:List Th} (h:LR L R) {t:Nat} (ht:t < L.length) (h0:(thAt L t).own < 0):ownIx R t = -1:=by
 refine ixF_miss fun j hj=>?_
 cases hb:isOwnOf t R[j] with
 | false=>rfl
 | true =>
  simp only [isOwnOf,Bool.and_eq_true,decide_eq_true_eq,←thAt_eq hj] at hb
  have:=(h.own t j ht (by rw [←h.len];exact hj)).1 hb
  omega
theorem LR.ownIx_ge {L R:List Th} (h:LR L R) (hL:OK L) {t:Nat} (ht:t < L.length):0≤ownIx R t↔0≤(thAt L t).own:=by
 by_cases h0:0≤(thAt L t).own
 ·rw [h.ownIx_yes hL ht h0]
 ·rw [h.ownIx_no ht (by omega)];omega
def wantF:Nat→List Th→Int→List Int
 | 0,_,_=>[]
 | n + 1,R,c=>if c < 0 then [] else if 0≤ownIx R c then [] else c :: wantF n R (thAt R c).sup
def aboveOf (R:List Th) (w:Int):Int:=if 0≤(thAt R w).sup then ownIx R (thAt R w).sup else 0
def rmk (R:List Th) (w:Int):List Th:=R ++ [⟨2,aboveOf R w,-1,w,[],[]⟩]
theorem LR.newOwn {L R:List Th} (h:LR L R) (hL:OK L) {t:Nat} (ht:t < L.length) (hno:(thAt L t).own < 0) (w:Int) :
  LR ((L ++ [newTh 2 w (-1)]).set t { thAt (L ++ [newTh 2 w (-1)]) t with own:=(L.length:Int) }) (R ++ [⟨2,w,-1,(t:Int),[],[]⟩]):=by
 have hlen:=h.len
 have hown:∀ k:Nat,k < L.length→(thAt L k).own < L.length:=fun k hk=>by
  by_cases h0:0≤(thAt L k).own
  ·exact (hL.own k _ (get_thAt (u:=(k:Int)) (by omega) (by omega)) h0).1
  ·omega
 have htq:t < (L ++ [newTh 2 w (-1)]).length:=by simp;omega
 have hRn:thAt (R ++ [⟨2,w,-1,(t:Int),[],[]⟩]) (L.length:Int) = ⟨2,w,-1,(t:Int),[],[]⟩:=by rw [←hlen];exact thAt_new
 have hRo:∀ k:Nat,k < L.length→thAt (R ++ [⟨2,w,-1,(t:Int),[],[]⟩]) k = thAt R k:=fun k hk=>thAt_old (by omega)
 have hLn:thAt ((L ++ [newTh 2 w (-1)]).set t { thAt (L ++ [newTh 2 w (-1)]) t with own:=(L.length:Int) }) (L.length:Int) = newTh 2 w (-1):=by
  rw [thAt_set htq _ (by simp),if_neg (by omega),thAt_new]
 have hLt:thAt ((L ++ [newTh 2 w (-1)]).set t { thAt (L ++ [newTh 2 w (-1)]) t with own:=(L.length:Int) }) (t:Int) = { thAt L t with own:=(L.length:Int) }:=by
  rw [thAt_set htq _ (by simp;omega),if_pos rfl,thAt_old ht]
 have hLo:∀ k:Nat,k < L.length→k≠t→thAt ((L ++ [newTh 2 w (-1)]).set t { thAt (L ++ [newTh 2 w (-1)]) t with own:=(L.length:Int) }) (k:Int) = thAt L k:=fun k hk hkt=>by
  rw [thAt_set htq _ (by simp;omega),if_neg hkt,thAt_old hk]
 have hll:((L ++ [newTh 2 w (-1)]).set t { thAt (L ++ [newTh 2 w (-1)]) t with own:=(L.length:Int) }).length = L.length + 1:=by simp
 refine ⟨by simp [hlen],fun k hk=>?_,fun k i hk hi=>?_,fun i hi hk2=>?_⟩
 ·rw [hll] at hk
  by_cases e:k = L.length
  ·subst e;rw [hLn,hRn];exact ⟨rfl,rfl,rfl,rfl,rfl⟩
  ·rw [hRo k (by omega)]
   by_cases e2:k = t
   ·subst e2;rw [hLt];exact h.th k ht
   ·rw [hLo k (by omega) e2];exact h.th k (by omega)
 ·rw [hll] at hk hi
  by_cases e:i = L.length
  ·subst e
   rw [hRn]
   by_cases e1:k = L.length
   ·subst e1;rw [hLn]
    refine ⟨fun q=>?_,fun q=>?_⟩
    ·have:=q.2;simp only at this;omega
    ·simp [newTh] at q
   ·by_cases e2:k = t
    ·subst e2;rw [hLt];exact ⟨fun _=>rfl,fun _=>⟨rfl,rfl⟩⟩
    ·rw [hLo k (by omega) e2]
     have:=hown k (by omega)
     refine ⟨fun q=>?_,fun q=>?_⟩
     ·have:=q.2;simp only at this;omega
     ·omega
  ·rw [hRo i (by omega)]
   by_cases e1:k = L.length
   ·subst e1;rw [hLn]
    refine ⟨fun q=>?_,fun q=>?_⟩
    ·have:=h.rng i (by omega) q.1;omega
    ·simp [newTh] at q
   ·by_cases e2:k = t
    ·subst e2;rw [hLt]
     refine ⟨fun q=>?_,fun q=>?_⟩
     ·have:=(h.own k i ht (by omega)).1 q;omega
     ·simp only at q;omega
    ·rw [hLo k (by omega) e2];exact h.own k i (by omega) (by omega)
 ·rw [hll] at hi ⊢
  by_cases e:i = L.length
  ·subst e;rw [hRn];simp only;omega
  ·rw [hRo i (by omega)] at hk2 ⊢
   have:=h.rng i (by omega) hk2
   exact ⟨this.1,by push_cast;omega⟩
theorem LR.want_len {L R:List Th} (h:LR L R) (hL:OK L):∀ (n:Nat) {t:Nat} (ht:t < L.length),rk L t < n→(wantF n R t).length = missF n L t
 | 0,t,ht,hr=>by omega
 | n + 1,t,ht,hr=>by
  have hx:L[t]? = some L[t]:=List.getElem?_eq_getElem ht
  have hth:=thAt_eq ht
  have hge:=h.ownIx_ge hL ht
  rw [hth] at hge
  have hsup:(thAt R t).sup = L[t].sup:=by rw [(h.th t ht).2.1,hth]
  have ht0:¬ (t:Int) < 0:=by omega
  by_cases h1:0≤L[t].own
  ·rw [wantF,if_neg ht0,if_pos (hge.2 h1),missF,hth,if_pos h1];rfl
  ·rw [wantF,if_neg ht0,if_neg fun q=>h1 (hge.1 q),hsup,missF,hth,if_neg h1]
   by_cases h2:0≤L[t].sup
   ·obtain ⟨q1,q2⟩:=hL.ups.up t _ hx h2
    obtain ⟨s,hs⟩:∃ s:Nat,L[t].sup = s:=⟨L[t].sup.toNat,by omega⟩
    rw [hs] at q1 q2
    rw [if_pos h2,hs,List.length_cons,LR.want_len h hL n (t:=s) (by omega) (by omega)];omega
   ·have hwn:wantF n R L[t].sup = []:=by cases n with
     | zero=>rfl
     | succ n=>rw [wantF,if_pos (by omega)]
    rw [if_neg h2,hwn];rfl
theorem LR.mk_eq {L R:List Th} (h:LR L R) (hL:OK L) (hpos:0 < L.length):∀ (n:Nat) {t:Nat} (ht:t < L.length),rk L t < n→L.length + missF n L t≤1000 →
  (wantF n R t).length = missF n L t∧LR (mkF n L t).1 ((wantF n R t).reverse.foldl rmk R)
 | 0,t,ht,hr,hroom=>by omega
 | n + 1,t,ht,hr,hroom=>by
  have hx:L[t]? = some L[t]:=List.getElem?_eq_getElem ht
  have hth:=thAt_eq ht
  have hge:=h.ownIx_ge hL ht
  rw [hth] at hge
  have hsup:(thAt R t).sup = L[t].sup:=by rw [(h.th t ht).2.1,hth]
  have ht0:¬ (t:Int) < 0:=by omega
  by_cases h1:0≤L[t].own
  ·have hm:mkF (n + 1) L t = (L,L[t].own):=by unfold mkF;rw [hth,if_pos h1]
   have hms:missF (n + 1) L t = 0:=by rw [missF,hth,if_pos h1]
   have hw:wantF (n + 1) R t = []:=by rw [wantF,if_neg ht0,if_pos (hge.2 h1)]
   rw [hm,hms,hw]
   exact ⟨rfl,h⟩
  ·have hw:wantF (n + 1) R t = (t:Int) :: wantF n R L[t].sup:=by rw [wantF,if_neg ht0,if_neg fun q=>h1 (hge.1 q),hsup]
   by_cases h2:0≤L[t].sup
   ·obtain ⟨q1,q2⟩:=hL.ups.up t _ hx h2
    obtain ⟨s,hs⟩:∃ s:Nat,L[t].sup = s:=⟨L[t].sup.toNat,by omega⟩
    rw [hs] at q1 q2 hw
    have hms:missF (n + 1) L t = 1 + missF n L s:=by rw [missF,hth,if_neg h1,if_pos (by omega),hs]
    have hs0:(0:Int)≤s:=by omega
    have hpl:=mkF_len n L s
    obtain ⟨ih1,ih2⟩:=LR.mk_eq h hL hpos n (t:=s) (by omega) (by omega) (by omega)
    obtain ⟨p1,p2,p3,p4,p5⟩:=mkF_OK n hL hpos (t:=s) (by omega) (by omega) (by omega)
    have hm:mkF (n + 1) L t = (((mkF n L s).1 ++ [newTh 2 (mkF n L s).2 (-1)]).set t { thAt ((mkF n L s).1 ++ [newTh 2 (mkF n L s).2 (-1)]) t with own:=((mkF n L s).1.length:Int) },((mkF n L s).1.length:Int)):=by
     rw [mkF,hth,if_neg h1]
     simp only [hs,hs0,if_true,Int.toNat_natCast]
    rw [hm,hms,hw]
    refine ⟨by simp only [List.length_cons,ih1];omega,?_⟩
    rw [List.reverse_cons,List.foldl_append,List.foldl_cons,List.foldl_nil]
    generalize (wantF n R s).reverse.foldl rmk R = R1 at *
    generalize mkF n L s = p at *
    obtain ⟨L1,w⟩:=p
    simp only at *
    obtain ⟨x1,hx1,e1,e2,e3,e4⟩:=p5 t _ hx
    have ht1:t < L1.length:=by omega
    have hx1':thAt L1 t = x1:=thAt_get hx1
    have ho:(thAt L1 t).own < 0:=by rw [hx1',e4 q2];omega
    have hsR:(thAt R1 t).sup = s:=by rw [(ih2.th t ht1).2.1,hx1',e2,hs]
    have hab:aboveOf R1 t = w:=by
     unfold aboveOf
     rw [hsR,if_pos hs0,ih2.ownIx_yes p1 (by omega) (by rw [p3];exact p2),p3]
    unfold rmk
    rw [hab]
    exact ih2.newOwn p1 ht1 ho w
   ·have hms:missF (n + 1) L t = 1:=by rw [missF,hth,if_neg h1,if_neg h2]
    have hm:mkF (n + 1) L t = ((L ++ [newTh 2 0 (-1)]).set t { thAt (L ++ [newTh 2 0 (-1)]) t with own:=(L.length:Int) },(L.length:Int)):=by
     rw [mkF,hth,if_neg h1]
     simp only [h2,if_false,Int.toNat_natCast]
    have hwn:wantF n R L[t].sup = []:=by cases n with
     | zero=>rfl
     | succ n=>rw [wantF,if_pos (by omega)]
    rw [hm,hms,hw,hwn]
    refine ⟨rfl,?_⟩
    have hab:aboveOf R t = 0:=by unfold aboveOf;rw [hsup,if_neg h2]
    show LR _ (rmk R t)
    unfold rmk
    rw [hab]
    exact h.newOwn hL ht (by rw [hth];omega) 0
def rownOf (R:List Th) (t:Int):List Th×Int×Int :=
 if val R t = false∨(thAt R t).kind = 2 then (R,0,1)
 else if 0≤ownIx R t then (R,ownIx R t,0)
 else if 1000 < R.length + (wantF 1001 R t).length then (R,0,9)
 else ((wantF 1001 R t).reverse.foldl rmk R,ownIx ((wantF 1001 R t).reverse.foldl rmk R) t,0)
theorem LR.own_eq {L R:List Th} (h:LR L R) (hL:OK L) (hpos:0 < L.length) (t:Int):(rownOf R t).2 = (ownOf L t).2∧LR (ownOf L t).1 (rownOf R t).1:=by
 have hve:=h.val_eq t
 cases hv:val L t with
 | false =>
  have e1:rownOf R t = (R,0,1):=by unfold rownOf;rw [if_pos (.inl (hve.trans hv))]
  have e2:ownOf L t = (L,0,1):=by unfold ownOf;rw [if_pos (.inl hv)]
  rw [e1,e2];exact ⟨rfl,h⟩
 | true =>
  have hvR:val R t = true:=hve.trans hv
  obtain ⟨t,rfl,ht⟩:=val_nat hv
  have hk:=(h.th t ht).1
  by_cases h2:(thAt L t).kind = 2
  ·have e1:rownOf R t = (R,0,1):=by unfold rownOf;rw [if_pos (.inr (hk.trans h2))]
   have e2:ownOf L t = (L,0,1):=by unfold ownOf;rw [if_pos (.inr h2)]
   rw [e1,e2];exact ⟨rfl,h⟩
  ·have hn1:¬ (val R t = false∨(thAt R t).kind = 2):=by rw [hvR,hk];simp [h2]
   have hn2:¬ (val L t = false∨(thAt L t).kind = 2):=by rw [hv];simp [h2]
   have hrk:=rk_le hL.wf t
   have hll:=hL.len
   by_cases h1:0≤(thAt L t).own
   ·have hm:mkF 1001 L t = (L,(thAt L t).own):=by unfold mkF;rw [if_pos h1]
    have hms:missF 1001 L t = 0:=by unfold missF;rw [if_pos h1]
    have e1:rownOf R t = (R,(thAt L t).own,0):=by unfold rownOf;rw [if_neg hn1,if_pos ((h.ownIx_ge hL ht).2 h1),h.ownIx_yes hL ht h1]
    have e2:ownOf L t = (L,(thAt L t).own,0):=by unfold ownOf;rw [if_neg hn2,hms,if_neg (by omega),hm]
    rw [e1,e2];exact ⟨rfl,h⟩
   ·have hge:¬ 0≤ownIx R t:=fun q=>h1 ((h.ownIx_ge hL ht).1 q)
    have hw:(wantF 1001 R t).length = missF 1001 L t:=LR.want_len h hL 1001 ht (by omega)
    by_cases hf:1000 < L.length + missF 1001 L t
    ·have e1:rownOf R t = (R,0,9):=by unfold rownOf;rw [if_neg hn1,if_neg hge,if_pos (by rw [hw,h.len];exact hf)]
     have e2:ownOf L t = (L,0,9):=by unfold ownOf;rw [if_neg hn2,if_pos hf]
     rw [e1,e2];exact ⟨rfl,h⟩
    ·obtain ⟨q1,q2⟩:=LR.mk_eq h hL hpos 1001 ht (by omega) (by omega)
     obtain ⟨p1,p2,p3,p4,p5⟩:=mkF_OK 1001 hL hpos ht (by omega) (by omega)
     have hl2:t < (mkF 1001 L t).1.length:=by rw [mkF_len];omega
     have e1:rownOf R t = ((wantF 1001 R t).reverse.foldl rmk R,ownIx ((wantF 1001 R t).reverse.foldl rmk R) t,0):=by
      unfold rownOf;rw [if_neg hn1,if_neg hge,if_neg (by rw [hw,h.len];exact hf)]
     have e2:ownOf L t = ((mkF 1001 L t).1,(mkF 1001 L t).2,0):=by unfold ownOf;rw [if_neg hn2,if_neg hf]
     rw [e1,e2]
     refine ⟨?_,q2⟩
     rw [q2.ownIx_yes p1 hl2 (by rw [p3];exact p2),p3]
theorem LR.ups {L R:List Th} (h:LR L R) (hL:OK L):Ups R (rk L):=by
 refine ⟨fun t x hx h0=>?_,by rw [h.len];exact hL.len⟩
 have htR:t < R.length:=(List.getElem?_eq_some_iff.1 hx).1
 have ht:t < L.length:=by rw [←h.len];exact htR
 have hs:=(h.th t ht).2.1
 rw [thAt_get hx] at hs
 have hx2:L[t]? = some (thAt L t):=get_thAt (u:=(t:Int)) (by omega) (by omega)
 have:=hL.ups.up t _ hx2 (by omega)
 rw [h.len,hs];exact this
end Go.Proofs.YtbhigdljojlhnaaGreat

/- The document's lineage: all orders; an order; who is whose own. -/
namespace Go.Proofs.YtbhigdljojlhnaaGreat
set_option linter.all false
open Go.Vc Go.Proofs
set_option linter.unusedSimpArgs false
set_option linter.unusedVariables false
set_option maxRecDepth 100000
set_option maxHeartbeats 4000000
attribute [local irreducible] CallW EqK
theorem zeros_bs (n:Nat):(sq (List.replicate n (.val (.bool false))):D) = dBs (List.replicate n false):=by simp [dBs]
theorem zeros_os (n:Nat):(sq (List.replicate n (.sl true () 1 .nil)):D) = dOs (List.replicate n (true,[])):=by simp [dOs]
noncomputable def ords (R:List Th):List (Bool×List Int):=(List.range R.length).map fun t:Nat=>(false,ordL R (t:Int))
theorem memo0 (R:List Th):MemoR R (List.replicate R.length false) (List.replicate R.length (true,[])):=⟨by simp,by simp,fun i h hk=>by simp at hk⟩
theorem memo_all {R:List Th} {kn:List Bool} {lst:List (Bool×List Int)} (h:MemoR R kn lst) (hall:∀ j,j < R.length→kn[j]? = some true):lst = ords R:=by
 apply List.ext_getElem
 ·rw [h.ll];simp [ords]
 ·intro i h1 h2
  have hi:i < R.length:=by rw [←h.ll];exact h1
  have hk:=hall i hi
  rw [List.getElem?_eq_getElem (by rw [h.kl];exact hi),Option.some.injEq] at hk
  obtain ⟨o,q1,q2⟩:=h.ok i hi hk
  rw [q2]
  simp [ords,ordL,q1]
theorem emptySub_pos (X:List D) (k:Nat) (q:Path) {n:Nat} (ex:Bool) (h:0 < n):emptySub X k q n ex = none:=by
 cases n with
 | zero=>omega
 | succ n=>unfold emptySub;cases ex <;> rfl
def OrdsR (R:List Th) (av:AV) (X:List D) (κ:List (Nat×Path)):Prop :=
 ((∀ k:Nat,k < R.length→∃ o,ordOf R k = some o)∧(∃ kn,av = .tup (.cons (.sub 1 [.d,.f 1] 0 R.length false) (.cons (avBool true) .nil))∧X = [dR R,dO kn (ords R)])∧κ = []) ∨
 ((∃ k:Nat,k < R.length∧ordOf R k = none)∧av = .tup (.cons (.nils 1) (.cons (avBool false) .nil))∧X = [dR R]∧κ = [])
theorem rfind_yes {R:List Th} {r:Int→Nat} (B:Base R r) {t:Nat} (ht:t < R.length) {kn:List Bool} {lst:List (Bool×List Int)} (hM:MemoR R kn lst) {o:List Int} (ho:ordOf R t = some o) :
  Meets Tryz.prog 136 [dR R,dO kn lst] (.cons (.ptr 0 [.d]) (.cons (.ptr 1 [.d]) (.cons (avInt t) .nil)))
  fun av X κ=>∃ kn' lst',MemoR R kn' lst'∧Mono kn kn'∧kn'[t]? = some true∧av = avBool true∧X = [dR R,dO kn' lst']∧κ = [(1,[.d])] :=
 Meets.mono (rfind_ok B t ht kn lst hM) fun av X κ ⟨kn,lst,h1,h2,h3,h4,h5,h6⟩=>by rw [ho] at h5 h6;exact ⟨kn,lst,h1,h2,h6 rfl,h5,h3,h4⟩
theorem rfind_no {R:List Th} {r:Int→Nat} (B:Base R r) {t:Nat} (ht:t < R.length) {kn:List Bool} {lst:List (Bool×List Int)} (hM:MemoR R kn lst) (ho:ordOf R t = none) :
  Meets Tryz.prog 136 [dR R,dO kn lst] (.cons (.ptr 0 [.d]) (.cons (.ptr 1 [.d]) (.cons (avInt t) .nil)))
  fun av X κ=>∃ kn' lst',av = avBool false∧X = [dR R,dO kn' lst']∧κ = [(1,[.d])] :=
 Meets.mono (rfind_ok B t ht kn lst hM) fun av X κ ⟨kn,lst,h1,h2,h3,h4,h5,h6⟩=>by rw [ho] at h5;exact ⟨kn,lst,h5,h3,h4⟩
theorem Orders_ok {R:List Th} {r:Int→Nat} (B:Base R r) (hp:0 < R.length):Meets Tryz.prog 127 [dR R] (.cons (.ptr 0 [.d]) .nil) (OrdsR R):=by
 unfold OrdsR
 have hL:=B.len
 have b1:(R.length:Int)≤140737488355328:=by omega
 have b2:(R.length:Int) * 24≤140737488355328:=by omega
 have b3:(R.length:Int)≤9223372036854775807:=by omega
 refine fb Tryz.func127 Tryz.ntmps127 [.tmp 2,.tmp 3] fun w0 I0 F0 hF=>?_
 have hes:=fun X k q=>emptySub_pos X k q (n:=R.length) true hp
 have hm1:(dBs (List.replicate R.length false)).mid 0 R.length = dBs (List.replicate R.length false):=sq_mid_all _ _ (by simp)
 have hm2:(dOs (List.replicate R.length (true,[]))).mid 0 R.length = dOs (List.replicate R.length (true,[])):=sq_mid_all _ _ (by simp)
 repeat first|refine n1 ?_|refine n3 ?_|((first|refine rg 0 [0] [0] [] ?_|(refine dr 1 0 [0] [0,4] [] [⟨0,1,64,5⟩,⟨1,64,128,5⟩,⟨2,128,256,5⟩,⟨4,256,512,6⟩,⟨8,512,1024,5⟩,⟨16,1024,2048,4⟩,⟨0,1,4096,5⟩,⟨64,4096,8192,5⟩,⟨128,8192,16384,5⟩,⟨256,16384,32768,6⟩,⟨512,32768,65536,5⟩,⟨1024,65536,131072,4⟩,⟨2080,133120,262144,5⟩,⟨4096,262144,524288,4⟩,⟨16383,524288,16,5⟩] (.take 0 (.take 1 (.take 2 (.take 3 (.take 4 (.take 6 (.take 7 (.take 8 (.take 9 (.take 10 (.fork (.alt 5 (.fork (.alt 11 (.take 12 (.fork (.alt 13 (.take 14 (.done)) (.nil)))) (.nil))) (.alt 11 (.fork (.alt 5 (.take 12 (.fork (.alt 13 (.take 14 (.done)) (.nil)))) (.nil))) (.nil)))))))))))))) (.run [0,1,2,3,4,6,7,8,9,10] (.both (.run [5,11,12,13,14] (.done)) (.run [11,5,12,13,14] (.done)))) ?_;simp only [drs])|refine rg 2 [0,4] [0,4,5] [] ?_);simp (maxSteps:=1000000) [hF,dR,b1,b2,b3,zeros_bs,zeros_os,hes,hm1,hm2])
 refine VS.pick [0,4,5] [0,3] (by simp [hF]) ?_;simp [hF]
 refine VS.rounds (fun m st=>∃ (i:Nat) (kn:List Bool) (lst:List (Bool×List Int)),i + m = R.length∧MemoR R kn lst∧(∀ j:Nat,j < i→kn[j]? = some true∧∃ o,ordOf R j = some o) ∧
  st = ⟨[(0,.ptr 0 [.d]),(4,.ptr 1 [.d]),(5,avInt i)],[dR R,dO kn lst],[],[]⟩) ⟨R.length,0,_,_,by omega,memo0 R,(fun j h=>by omega),by simp [dO,dR]⟩ ?_
 rintro m st ⟨i,kn,lst,hi,hM,hall,rfl⟩
 repeat first|refine n1 ?_|((first|refine rg 3 [0,4,5] [0,4,5,26] [] ?_|refine nc ?_);simp (maxSteps:=1000000) [hF,dR])
 refine ⟨fun hlt=>?_,fun hge=>?_⟩
 ·have hil:i < R.length:=by omega
  cases ho:ordOf R i with
  | some o =>
   repeat first|refine n1 ?_|refine n2 ?_|refine n3 ?_|((refine rg 5 [0,4,5] [0,4,5,33] [] ?_);simp (maxSteps:=1000000) [hF])
   refine (rfind_yes B hil hM ho).go [(0,[]),(1,[])] (by simp (maxSteps:=1000000) [hF,dR,dO]) ?_;rintro av X κ ⟨kn',lst',hM',hmo,hkt,rfl,rfl,rfl⟩;simp (maxSteps:=1000000) [hF,dR,dO]
   repeat first|refine n2 ?_|refine n4 ?_|refine n5 ?_|refine n6 ?_|((first|refine rg 4 [0,4,5] [0,4,5] [] ?_|refine nc ?_);simp (maxSteps:=1000000) [hF])
   refine nextK.of [0,4,5] [0,1] (m - 1) (by omega) (by simp [hF]) ?_
   refine ⟨i + 1,kn',lst',by omega,hM',fun j hj=>?_,?_⟩
   ·by_cases e:j = i
    ·subst e;exact ⟨hkt,o,ho⟩
    ·obtain ⟨q1,q2⟩:=hall j (by omega)
     exact ⟨hmo j q1,q2⟩
   ·simp [dR,dO]
    exact IntWalk.i64_in _ (by omega)
  | none =>
   repeat first|refine n1 ?_|refine n2 ?_|refine n3 ?_|((refine rg 5 [0,4,5] [0,4,5,33] [] ?_);simp (maxSteps:=1000000) [hF])
   refine (rfind_no B hil hM ho).go [(0,[]),(1,[])] (by simp (maxSteps:=1000000) [hF,dR,dO]) ?_;rintro av X κ ⟨kn',lst',rfl,rfl,rfl⟩;simp (maxSteps:=1000000) [hF,dR,dO]
   repeat first|refine n1 ?_|((first|refine rg 6 [] [2,3] [] ?_|refine nc ?_);simp (maxSteps:=1000000) [hF])
   (try refine nr ?_);(repeat first|refine nb_ ?_|refine nl_ ?_);refine endK.o [2,3] [0] [] ?_;simp [hF,retK,covers,mpre,dR]
   exact ⟨i,hil,ho⟩
 ·obtain rfl:i = R.length:=by omega
  have hlst:=memo_all hM fun j hj=>(hall j hj).1
  subst hlst
  have hlen:(ords R).length = R.length:=by simp [ords]
  repeat first|refine n1 ?_|refine n7 ?_|((refine rg 7 [4] [2,3] [] ?_);simp (maxSteps:=1000000) [hF,dO,hlen])
  (try refine nr ?_);(repeat first|refine nb_ ?_|refine nl_ ?_);refine endK.o [2,3] [0,1] [] ?_;simp [hF,retK,covers,mpre,dR,dO]
  exact ⟨fun k hk=>(hall k hk).2,kn,rfl⟩
theorem Orders_all {R:List Th} {r:Int→Nat} (B:Base R r) (hp:0 < R.length) (h:∀ k:Nat,k < R.length→∃ o,ordOf R k = some o):Meets Tryz.prog 127 [dR R] (.cons (.ptr 0 [.d]) .nil)
  fun av X κ=>∃ kn,av = .tup (.cons (.sub 1 [.d,.f 1] 0 R.length false) (.cons (avBool true) .nil))∧X = [dR R,dO kn (ords R)]∧κ = []:=by
 refine Meets.mono (Orders_ok B hp) fun av X κ h'=>?_
 rcases h' with ⟨_,⟨kn,h1,h2⟩,h3⟩ | ⟨⟨k,hk,hn⟩,_⟩
 ·exact ⟨kn,h1,h2,h3⟩
 ·obtain ⟨o,ho⟩:=h k hk;rw [ho] at hn;cases hn
theorem Orders_not {R:List Th} {r:Int→Nat} (B:Base R r) (hp:0 < R.length) (h:¬ ∀ k:Nat,k < R.length→∃ o,ordOf R k = some o):Meets Tryz.prog 127 [dR R] (.cons (.ptr 0 [.d]) .nil)
  fun av X κ=>av = .tup (.cons (.nils 1) (.cons (avBool false) .nil))∧X = [dR R]∧κ = []:=by
 refine Meets.mono (Orders_ok B hp) fun av X κ h'=>?_
 rcases h' with ⟨h1,_⟩ | ⟨_,h2⟩
 ·exact absurd h1 h
 ·exact h2
theorem Orders_yes {R:List Th} (W:WFL R) (hp:0 < R.length):Meets Tryz.prog 127 [dR R] (.cons (.ptr 0 [.d]) .nil)
  fun av X κ=>∃ kn,av = .tup (.cons (.sub 1 [.d,.f 1] 0 R.length false) (.cons (avBool true) .nil))∧X = [dR R,dO kn (ords R)]∧κ = []:=by
 obtain ⟨r,B⟩:=W.base
 refine Meets.mono (Orders_ok B hp) fun av X κ h=>?_
 rcases h with ⟨_,⟨kn,h1,h2⟩,h3⟩ | ⟨⟨k,hk,hn⟩,_⟩
 ·exact ⟨kn,h1,h2,h3⟩
 ·rw [W.ord hk] at hn;cases hn
theorem ords_nth {R:List Th} {t:Nat} (h:t < R.length):(dOs (ords R)).nth t = .sl false () 1 (dInts (ordL R t)):=by
 rw [dOs_nth (by simpa [ords] using h)];simp [ords]
theorem rOrder_yes {R:List Th} (W:WFL R) (t:Nat) (ht:t < R.length):Meets Tryz.prog 121 [dR R] (.cons (.ptr 0 [.d]) (.cons (avInt t) .nil))
  fun av X κ=>av = avTwo (.imm 1 (dInts (ordL R t)) false) 0∧X = [dR R]∧κ = []:=by
 have hv:val R t = true:=by simp [val,ht]
 have hn:=ords_nth ht
 have hol:(ordL R t).length≤1000:=W.base.elim fun _ B=>ord_len B ht (W.ord ht)
 have b1:(ordL R t).length * 8≤140737488355328:=by omega
 have b2:(ordL R t).length≤9223372036854775807:=by omega
 have hlen:(ords R).length = R.length:=by simp [ords]
 refine fb Tryz.func121 Tryz.ntmps121 [.tmp 4,.tmp 5] fun w0 I0 F0 hF=>?_
 repeat first|refine n1 ?_|((first|refine rg 0 [0,1] [0,1] [] ?_|refine rg 1 [0,1] [0,1,11] [] ?_);simp (maxSteps:=1000000) [hF])
 refine (There_ok R t).go [(0,[])] (by simp (maxSteps:=1000000) [hF,dR,hv]) ?_;rintro av X κ ⟨rfl,rfl,rfl⟩;simp (maxSteps:=1000000) [hF,dR,hv]
 repeat first|refine n1 ?_|refine n2 ?_|((first|refine rg 3 [0,1] [1,6] [] ?_|refine nc ?_);simp (maxSteps:=1000000) [hF])
 refine (Orders_yes W (by omega)).go [(0,[])] (by simp (maxSteps:=1000000) [hF,dR,dO]) ?_;rintro av X κ ⟨kn,rfl,rfl,rfl⟩;simp (maxSteps:=1000000) [hF,dR,dO]
 repeat first|refine n1 ?_|((refine rg 4 [1,6] [4,5] [] ?_);simp (maxSteps:=1000000) [hF,hn,ht,hlen,b1,b2])
 refine VS.cool 4 (by simp (maxSteps:=1000000) [hF]) ?_;simp [hF,St.cool]
 (try refine nr ?_);(repeat first|refine nb_ ?_|refine nl_ ?_);refine endK.o [4,5] [0] [] ?_;simp [hF,retK,covers,mpre,dR]
theorem OwnOf_ok (R:List Th) (hl:R.length≤5000) (t:Int):Meets Tryz.prog 112 [dR R] (.cons (.ptr 0 [.d]) (.cons (avInt t) .nil))
  fun av X κ=>av = avInt (ownIx R t)∧X = [dR R]∧κ = []:=by
 refine fb Tryz.func112 Tryz.ntmps112 [.tmp 4] fun w0 I0 F0 hF=>?_
 repeat first|refine n1 ?_|refine n3 ?_|((first|refine rg 0 [0,1] [0,1] [] ?_|refine rg 1 [0,1] [0,1,5] [] ?_);simp (maxSteps:=1000000) [hF])
 refine VS.rounds (fun m st=>∃ (i:Nat),i + m = R.length∧(∀ j,(h:j < R.length)→j < i→isOwnOf t R[j] = false)∧st = ⟨[(0,.ptr 0 [.d]),(1,avInt t),(5,avInt i)],[dR R],[],[]⟩) ⟨R.length,0,by omega,(fun j h hj=>by omega),by simp⟩ ?_
 rintro m st ⟨i,hi,hall,rfl⟩
 repeat first|refine n1 ?_|((first|refine rg 2 [0,1,5] [0,1,5,12] [] ?_|refine nc ?_);simp (maxSteps:=1000000) [hF,dR])
 refine ⟨fun hlt=>?_,fun hge=>?_⟩
 ·have hil:i < R.length:=by omega
  have hn:=dThs_nth hil
  have fin:isOwnOf t R[i] = false→∀ j,(h:j < R.length)→j < i + 1→isOwnOf t R[j] = false:=fun h j hj hji=>by
   by_cases e:j = i
   ·subst e;exact h
   ·exact hall j hj (by omega)
  by_cases h1:R[i].kind = 2
  ·by_cases h2:R[i].own = t
   ·have hr:ownIx R t = i:=ixF_hit hil (fun j h=>hall j (by omega) h) (by simp [isOwnOf,h1,h2])
    repeat first|refine n1 ?_|refine n2 ?_|refine n3 ?_|((first|refine rg 4 [0,1,5] [0,1,5,35] [(9,24)] ?_|refine rg 5 [5] [4] [] ?_|refine nc ?_);simp (maxSteps:=1000000) [hF,dR,hn,hil,h1,h2])
    (try refine nr ?_);(repeat first|refine nb_ ?_|refine nl_ ?_);refine endK.o [4] [0] [] ?_;simp [hF,retK,covers,mpre,dR,hr]
   ·repeat first|refine n1 ?_|refine n2 ?_|refine n3 ?_|refine n4 ?_|refine n5 ?_|refine n6 ?_|((first|refine rg 3 [0,1,5] [0,1,5] [] ?_|refine rg 4 [0,1,5] [0,1,5,35] [(9,24)] ?_|refine nc ?_);simp (maxSteps:=1000000) [hF,dR,hn,hil,h1,h2])
    refine nextK.of [0,1,5] [0] (m - 1) (by omega) (by simp [hF]) ?_
    refine ⟨i + 1,by omega,fin (by simp [isOwnOf,h2]),?_⟩
    simp [dR]
    exact IntWalk.i64_in _ (by omega)
  ·repeat first|refine n1 ?_|refine n2 ?_|refine n3 ?_|refine n4 ?_|refine n5 ?_|refine n6 ?_|((first|refine rg 3 [0,1,5] [0,1,5] [] ?_|refine rg 4 [0,1,5] [0,1,5,35] [(9,24)] ?_|refine nc ?_);simp (maxSteps:=1000000) [hF,dR,hn,hil,h1])
   refine nextK.of [0,1,5] [0] (m - 1) (by omega) (by simp [hF]) ?_
   refine ⟨i + 1,by omega,fin (by simp [isOwnOf,h1]),?_⟩
   simp [dR]
   exact IntWalk.i64_in _ (by omega)
 ·have hr:ownIx R t = -1:=ixF_miss fun j h=>hall j h (by omega)
  repeat first|refine n1 ?_|refine n7 ?_|((refine rg 6 [] [4] [] ?_);simp (maxSteps:=1000000) [hF])
  (try refine nr ?_);(repeat first|refine nb_ ?_|refine nl_ ?_);refine endK.o [4] [0] [] ?_;simp [hF,retK,covers,mpre,dR,hr]
theorem rCopy_ok {R:List Th} {r:Int→Nat} (B:Base R r):Meets Tryz.prog 51 [dR R] (.cons (.ptr 0 [.d]) .nil)
  fun av X κ=>av = .ptr 1 [.d]∧X = [dR R,dR R]∧κ = []:=by
 have hL:=B.len
 refine fb Tryz.func51 Tryz.ntmps51 [.tmp 2] fun w0 I0 F0 hF=>?_
 repeat first|refine n1 ?_|((first|refine rg 0 [0] [0] [] ?_|refine rg 1 [0] [0,7] [] ?_);simp (maxSteps:=1000000) [hF])
 refine (No_ok R).go [(0,[])] (by simp (maxSteps:=1000000) [hF,dR]) ?_;rintro av X κ ⟨rfl,rfl,rfl⟩;simp (maxSteps:=1000000) [hF,dR]
 repeat first|refine n1 ?_|refine n2 ?_|refine n3 ?_|((first|refine rg 3 [0] [0,3] [] ?_|refine rg 4 [0,3] [0,3,4] [] ?_|refine nc ?_);simp (maxSteps:=1000000) [hF])
 refine VS.rounds (fun m st=>∃ (i:Nat) (A:List Th),i + m = R.length∧A = R.take i∧st = ⟨[(0,.ptr 0 [.d]),(3,.ptr 1 [.d]),(4,avInt i)],[dR R,dR A],[],[]⟩) ⟨R.length,0,[],by omega,rfl,by simp [dR,dThs,sq]⟩ ?_
 rintro m st ⟨i,A,hi,hA,rfl⟩
 repeat first|refine n1 ?_|((first|refine rg 5 [0,3,4] [0,3,4,16] [] ?_|refine nc ?_);simp (maxSteps:=1000000) [hF,dR])
 refine ⟨fun hlt=>?_,fun hge=>?_⟩
 ·have hil:i < R.length:=by omega
  have hn:=dThs_nth hil
  have hx:R[i]? = some R[i]:=List.getElem?_eq_getElem hil
  have h1:=nodup_bound R.length (parents R[i]) (B.np _ _ hx) (fun u hu=>by have:=B.edge _ _ hx u (.inr hu);omega)
  have h2:=nodup_bound R.length R[i].bef (B.nb _ _ hx) (fun u hu=>by have:=B.edge _ _ hx u (.inl hu);omega)
  have h3:R[i].ins.length≤(parents R[i]).length:=by simp [parents]
  have hAl:A.length = i:=by rw [hA,List.length_take];omega
  have hAs:R.take (i + 1) = A ++ [R[i]]:=by rw [hA,List.take_succ_eq_append_getElem hil]
  generalize R[i] = x at *
  have c1:x.bef.length * 8≤140737488355328:=by omega
  have c2:x.bef.length≤9223372036854775807:=by omega
  have c3:x.ins.length * 8≤140737488355328:=by omega
  have c4:x.ins.length≤9223372036854775807:=by omega
  have hpush:=dThs_push A x
  have hmid:(dThs (A ++ [x])).mid 0 (A.length + 1) = dThs (A ++ [x]):=sq_mid_all _ _ (by simp)
  have b1:(A.length + 1) * 80≤140737488355328:=by omega
  have b2:A.length + 1≤9223372036854775807:=by omega
  repeat first|refine n1 ?_|refine n2 ?_|refine n3 ?_|((first|refine rg 7 [0,3,4] [0,3,4,5] [] ?_|refine rg 8 [0,3,4,5] [0,3,4,5] [] ?_|refine rg 9 [0,3,4,5] [0,3,4,5] [] ?_);simp (maxSteps:=1000000) [hF,dR,hn,hil,c1,c2,c3,c4])
  refine VS.cold 2 [.d,.f 4] (by simp (maxSteps:=1000000) [hF,T.freeze]) (by simp (maxSteps:=1000000) [hF,T.freeze]) (by simp (maxSteps:=1000000) [hF,T.freeze]) ?_;simp [hF,St.cold,T.freeze]
  refine VS.cold 2 [.d,.f 5] (by simp (maxSteps:=1000000) [hF,T.freeze]) (by simp (maxSteps:=1000000) [hF,T.freeze]) (by simp (maxSteps:=1000000) [hF,T.freeze]) ?_;simp [hF,St.cold,T.freeze]
  refine ghostL 1 [.d,.f 1] ?_;simp (maxSteps:=1000000) [hF,St.lift,AV.lift,liftPl,stripP,nodeAV,isNode,dR]
  repeat first|refine n4 ?_|refine n5 ?_|refine n6 ?_|((first|refine rg 6 [0,3,4] [0,3,4] [] ?_|(refine dr 10 0 [0,3,4,5] [0,3,4] [] [⟨0,8,68719476736,5⟩,⟨0,8,137438953472,5⟩,⟨2,137438953472,274877906944,5⟩,⟨4,274877906944,549755813888,5⟩,⟨8,549755813888,1099511627776,6⟩,⟨0,32,2199023255552,6⟩,⟨32,2199023255552,4398046511104,4⟩,⟨80,5497558138880,8796093022208,0⟩,⟨255,68719476736,17592186044416,5⟩,⟨511,17592186044416,35184372088832,5⟩,⟨767,43980465111040,0,0⟩] (.take 0 (.take 1 (.take 2 (.take 3 (.take 4 (.take 5 (.fork (.alt 6 (.fork (.alt 7 (.take 8 (.take 9 (.fork (.alt 10 (.done) (.nil))))) (.nil))) (.nil))))))))) (.run [0,1,2,3,4,5,6,7,8,9,10] (.done)) ?_;simp only [drs]));simp (maxSteps:=1000000) [hF,dR,hpush,hmid,b1,b2])
  (repeat' with_reducible refine And.intro ?_ ?_)
  all_goals
   repeat first|refine n1 ?_
   refine nextK.of [0,3,4] [0,1] (m - 1) (by omega) (by simp [hF]) ?_
   refine ⟨i + 1,A ++ [x],by omega,hAs.symm,?_⟩
   simp [dR]
   exact IntWalk.i64_in _ (by omega)
 ·obtain rfl:i = R.length:=by omega
  rw [List.take_length] at hA
  subst hA
  repeat first|refine n1 ?_|refine n7 ?_|((refine rg 11 [3] [2] [] ?_);simp (maxSteps:=1000000) [hF])
  (try refine nr ?_);(repeat first|refine nb_ ?_|refine nl_ ?_);refine endK.o [2] [0,1] [] ?_;simp [hF,retK,covers,mpre,dR]
theorem rputI_ok {R:List Th} (W:WFL R) (hp:0 < R.length) (t m:Int) (hB:∀ t':Nat,t = t'→t' < R.length→val R m = true→(thAt R m).kind = 1→hasN (thAt R t).ins m = false→m≠t→hasN (ordL R m) t = false→∃ r,Base (withI R t' (m :: (thAt R t).ins)) r) :
  Meets Tryz.prog 108 [dR R] (.cons (.ptr 0 [.d]) (.cons (avInt t) (.cons (avInt m) (.cons (avBool false) .nil))))
  fun av X κ=>av = avInt (putI R t m).2∧X = [dR (putI R t m).1]∧κ = [(0,[.d])]:=by
 obtain ⟨r,B⟩:=W.base
 have hl:=B.len
 refine fb Tryz.func108 Tryz.ntmps108 [.tmp 8] fun w0 I0 F0 hF=>?_
 repeat first|refine n1 ?_|((first|refine rg 0 [0,1,2,3] [0,1,2,3] [] ?_|refine rg 1 [0,1,2,3] [0,1,2,3,36] [(4,20),(10,26)] ?_);simp (maxSteps:=1000000) [hF])
 cases hv:val R t with
 | false =>
  have hc:putI R t m = (R,1):=by unfold putI;rw [if_pos (by simp [hv])]
  refine (There_ok R t).go [(0,[])] (by simp (maxSteps:=1000000) [hF,dR,hv]) ?_;rintro av X κ ⟨rfl,rfl,rfl⟩;simp (maxSteps:=1000000) [hF,dR,hv]
  repeat first|refine n1 ?_|((first|refine rg 2 [] [8] [] ?_|refine nc ?_);simp (maxSteps:=1000000) [hF])
  (try refine nr ?_);(repeat first|refine nb_ ?_|refine nl_ ?_);refine endK.o [8] [0] [(0,[.d])] ?_;simp [hF,retK,covers,mpre,dR,hc]
 | true =>
  obtain ⟨t,rfl,ht⟩:=val_nat hv
  have hn:=dThs_nth ht
  have hth:=thAt_eq ht
  refine (There_ok R t).go [(0,[])] (by simp (maxSteps:=1000000) [hF,dR,hv]) ?_;rintro av X κ ⟨rfl,rfl,rfl⟩;simp (maxSteps:=1000000) [hF,dR,hv]
  cases hvm:val R m with
  | false =>
   have hc:putI R t m = (R,1):=by unfold putI;rw [if_pos (by simp [hvm])]
   refine (There_ok R m).go [(0,[])] (by simp (maxSteps:=1000000) [hF,dR,hvm]) ?_;rintro av X κ ⟨rfl,rfl,rfl⟩;simp (maxSteps:=1000000) [hF,dR,hvm]
   repeat first|refine n1 ?_|((first|refine rg 2 [] [8] [] ?_|refine nc ?_);simp (maxSteps:=1000000) [hF])
   (try refine nr ?_);(repeat first|refine nb_ ?_|refine nl_ ?_);refine endK.o [8] [0] [(0,[.d])] ?_;simp [hF,retK,covers,mpre,dR,hc]
  | true =>
   obtain ⟨m,rfl,hm⟩:=val_nat hvm
   have hnm:=dThs_nth hm
   have hthm:=thAt_eq hm
   by_cases hk:R[m].kind = 1
   ·have h0:¬ (val R t && (val R m && decide ((thAt R m).kind = 1))) = false:=by rw [hv,hvm,hthm,hk];simp
    have hlen:R[t].ins.length≤1000:=by
     have hx:R[t]? = some R[t]:=List.getElem?_eq_getElem ht
     have h1:=nodup_bound R.length (parents R[t]) (B.np _ _ hx) (fun u hu=>by have:=B.edge _ _ hx u (.inr hu);omega)
     have h2:=nodup_bound R.length R[t].bef (B.nb _ _ hx) (fun u hu=>by have:=B.edge _ _ hx u (.inl hu);omega)
     have h3:R[t].ins.length≤(parents R[t]).length:=by simp [parents]
     omega
    refine (There_ok R m).go [(0,[])] (by simp (maxSteps:=1000000) [hF,dR,hvm,hnm,hm,hk]) ?_;rintro av X κ ⟨rfl,rfl,rfl⟩;simp (maxSteps:=1000000) [hF,dR,hvm,hnm,hm,hk]
    repeat first|refine n1 ?_|refine n2 ?_|((first|refine rg 3 [0,1,2,3] [0,1,2,3,9] [] ?_|refine rg 4 [0,1,2,3,9] [0,1,2,3,9,45] [] ?_|refine rg 6 [0,1,2,3,9] [0,1,2,3,9,56] [] ?_|refine nc ?_);simp (maxSteps:=1000000) [hF,dR,hn,ht])
    refine (Has_ok false R[t].ins m (by omega)).go [] (by simp (maxSteps:=1000000) [hF,dR]) ?_;rintro av X κ ⟨rfl,rfl,rfl⟩;simp (maxSteps:=1000000) [hF,dR]
    cases hd:hasN R[t].ins m with
    | true =>
     have hc:putI R t m = (R,7):=by unfold putI;rw [if_neg h0,hth,if_pos hd]
     repeat first|refine n1 ?_|((first|refine rg 7 [] [8] [] ?_|refine nc ?_);simp (maxSteps:=1000000) [hF,hd])
     (try refine nr ?_);(repeat first|refine nb_ ?_|refine nl_ ?_);refine endK.o [8] [0] [(0,[.d])] ?_;simp [hF,retK,covers,mpre,dR,hc]
    | false =>
     have hd':¬ hasN (thAt R t).ins m = true:=by rw [hth,hd];simp
     have hol:(ordL R m).length≤1000:=ord_len B hm (W.ord hm)
     have hno:=ords_nth hm
     have hlen2:(ords R).length = R.length:=by simp [ords]
     repeat first|refine n1 ?_|refine n2 ?_|((first|refine rg 8 [0,1,2,3,9] [0,1,2,3,9,10] [] ?_|refine nc ?_);simp (maxSteps:=1000000) [hF,hd])
     refine (Orders_yes W hp).go [(0,[])] (by simp (maxSteps:=1000000) [hF,dR,dO]) ?_;rintro av X κ ⟨kn,rfl,rfl,rfl⟩;simp (maxSteps:=1000000) [hF,dR,dO]
     by_cases hmt:(m:Int) = (t:Int)
     ·have hc:putI R t m = (R,10):=by unfold putI;rw [if_neg h0,if_neg hd',if_pos (.inl hmt)]
      repeat first|refine n1 ?_|((first|refine rg 9 [0,1,2,3,9,10] [0,1,2,3,9,72] [(3,65)] ?_|refine rg 10 [] [8] [] ?_|refine nc ?_);simp (maxSteps:=1000000) [hF,hmt])
      (try refine nr ?_);(repeat first|refine nb_ ?_|refine nl_ ?_);refine endK.o [8] [0] [(0,[.d])] ?_;simp [hF,retK,covers,mpre,dR,hc]
     ·repeat first|refine n1 ?_|((refine rg 9 [0,1,2,3,9,10] [0,1,2,3,9,72] [(3,65)] ?_);simp (maxSteps:=1000000) [hF,hmt,hno,hlen2,hm])
      refine (Has_ok false (ordL R m) t (by omega)).go [] (by simp (maxSteps:=1000000) [hF,dR]) ?_;rintro av X κ ⟨rfl,rfl,rfl⟩;simp (maxSteps:=1000000) [hF,dR]
      cases hh:hasN (ordL R m) t with
      | true =>
       have hc:putI R t m = (R,10):=by unfold putI;rw [if_neg h0,if_neg hd',if_pos (.inr hh)]
       repeat first|refine n1 ?_|((first|refine rg 10 [] [8] [] ?_|refine nc ?_);simp (maxSteps:=1000000) [hF,hh])
       (try refine nr ?_);(repeat first|refine nb_ ?_|refine nl_ ?_);refine endK.o [8] [0] [(0,[.d])] ?_;simp [hF,retK,covers,mpre,dR,hc]
      | false =>
       have h3:¬ ((m:Int) = t∨hasN (ordL R m) t = true):=by rw [hh];simp [hmt]
       obtain ⟨r2,B2⟩:=hB t rfl ht hvm (by rw [hthm];exact hk) (by rw [hth];exact hd) hmt hh
       have hwe:=withI_eq ht ((m:Int) :: R[t].ins)
       have hset:=dThs_set R t { R[t] with ins:=(m:Int) :: R[t].ins }
       rw [←hwe] at hset
       have hw0:withI R t ((m:Int) :: R[t].ins) = withI R (t:Int).toNat ((m:Int) :: (thAt R t).ins):=by rw [hth];rfl
       rw [hth] at B2
       have hl2:(withI R t ((m:Int) :: R[t].ins)).length = R.length:=by rw [hwe];simp
       have hcN:¬ (∀ k:Nat,k < R.length→∃ o,ordOf (withI R t ((m:Int) :: R[t].ins)) k = some o)→putI R t m = (R,10):=fun h=>by unfold putI;rw [if_neg h0,if_neg hd',if_neg h3,←hw0,if_neg h]
       have hcY:(∀ k:Nat,k < R.length→∃ o,ordOf (withI R t ((m:Int) :: R[t].ins)) k = some o)→putI R t m = (withI R t ((m:Int) :: R[t].ins),0):=fun h=>by unfold putI;rw [if_neg h0,if_neg hd',if_neg h3,←hw0,if_pos h]
       generalize withI R t ((m:Int) :: R[t].ins) = R2 at *
       have happ:(T.cons (.val (.int .i64 (m:Int))) .nil:D).app (dInts R[t].ins) = dInts ((m:Int) :: R[t].ins):=dInts_app [(m:Int)] R[t].ins
       have hmid:(dInts ((m:Int) :: R[t].ins)).mid 0 (1 + R[t].ins.length) = dInts ((m:Int) :: R[t].ins):=sq_mid_all _ _ (by simp;omega)
       have c3:(1 + R[t].ins.length) * 8≤140737488355328:=by omega
       have c4:1 + R[t].ins.length≤9223372036854775807:=by omega
       repeat first|refine n1 ?_|refine n2 ?_|((first|refine rg 11 [0,1,2,3,9] [0,1,2,3,9,12] [] ?_|refine nc ?_);simp (maxSteps:=1000000) [hF,hh])
       refine (rCopy_ok B).go [(0,[])] (by simp (maxSteps:=1000000) [hF,dR]) ?_;rintro av X κ ⟨rfl,rfl,rfl⟩;simp (maxSteps:=1000000) [hF,dR]
       clear hd' h3 h0 hh hmt hwe hw0 hd hB
       apply merged
       ·intro key
        by_cases hz:0 < R[t].ins.length
        ·repeat first|refine n1 ?_|((refine rg 12 [0,1,2,3,9,12] [0,1,3,12,13] [] ?_);simp (maxSteps:=1000000) [hF,dR,hn,ht,happ,c3,c4,hz])
         refine VS.cool 13 (by simp (maxSteps:=1000000) [hF,hmid]) ?_;simp [hF,St.cool,hmid]
         repeat first|refine n1 ?_|((first|refine rg 13 [0,1,3,12,13] [0,1,12,13,79] [] ?_|refine rg 15 [0,1,12,13] [0,12] [] ?_|refine nc ?_);simp (maxSteps:=1000000) [hF,dR,hn,ht,hset])
         refine VS.pick [0,12] [0,2] (by simp [hF]) ?_;simp [hF]
         exact key ()
        ·have he:R[t].ins = []:=List.eq_nil_of_length_eq_zero (by omega)
         have hset1:=hset
         simp only [he,dInts_one] at hset1
         have hn1:=hn
         rw [he] at hn1
         repeat first|refine n1 ?_|((refine rg 12 [0,1,2,3,9,12] [0,1,3,12,13] [] ?_);simp (maxSteps:=1000000) [hF,dR,hn1,ht,hz,he])
         refine VS.cool 13 (by simp (maxSteps:=1000000) [hF,T.freeze]) ?_;simp [hF,St.cool,T.freeze]
         repeat first|refine n1 ?_|((first|refine rg 13 [0,1,3,12,13] [0,1,12,13,79] [] ?_|refine rg 15 [0,1,12,13] [0,12] [] ?_|refine nc ?_);simp (maxSteps:=1000000) [hF,dR,hn1,ht,hset1])
         refine VS.pick [0,12] [0,2] (by simp [hF]) ?_;simp [hF]
         exact key ()
       by_cases hall:∀ k:Nat,k < R.length→∃ o,ordOf R2 k = some o
       ·have hc:=hcY hall
        rw [←hl2] at hall
        repeat first|((refine rg 16 [0,12] [0,12,15] [] ?_);simp (maxSteps:=1000000) [hF])
        refine (Orders_all B2 (by omega) hall).go [(1,[])] (by simp (maxSteps:=1000000) [hF,dR,dO]) ?_;rintro av X κ ⟨kn2,rfl,rfl,rfl⟩;simp (maxSteps:=1000000) [hF,dR,dO]
        repeat first|refine n1 ?_|refine n2 ?_|((first|refine rg 17 [0,12,15] [0,12,102] [] ?_|refine nc ?_);simp (maxSteps:=1000000) [hF])
        refine ghostL 1 [.d,.f 1] ?_;simp (maxSteps:=1000000) [hF,St.lift,AV.lift,liftPl,stripP,nodeAV,isNode,dR]
        have hmr:(dThs R2).mid 0 R.length = dThs R2:=sq_mid_all _ _ (by simp [hl2])
        repeat first|refine n1 ?_|((first|refine rg 19 [0,12] [] [] ?_|refine rg 20 [] [8] [] ?_);simp (maxSteps:=1000000) [hF,dR,hl2,hmr])
        (try refine nr ?_);(repeat first|refine nb_ ?_|refine nl_ ?_);refine endK.o [8] [0] [(0,[.d])] ?_;simp [hF,retK,covers,mpre,dR,hc]
       ·have hc:=hcN hall
        rw [←hl2] at hall
        repeat first|((refine rg 16 [0,12] [0,12,15] [] ?_);simp (maxSteps:=1000000) [hF])
        refine (Orders_not B2 (by omega) hall).go [(1,[])] (by simp (maxSteps:=1000000) [hF,dR]) ?_;rintro av X κ ⟨rfl,rfl,rfl⟩;simp (maxSteps:=1000000) [hF,dR]
        repeat first|refine n1 ?_|((first|refine rg 17 [0,12,15] [0,12,102] [] ?_|refine rg 18 [] [8] [] ?_|refine nc ?_);simp (maxSteps:=1000000) [hF])
        (try refine nr ?_);(repeat first|refine nb_ ?_|refine nl_ ?_);refine endK.o [8] [0] [(0,[.d])] ?_;simp [hF,retK,covers,mpre,dR,hc]
   ·have hc:putI R t m = (R,1):=by unfold putI;rw [if_pos (by rw [hthm];simp [hk])]
    refine (There_ok R m).go [(0,[])] (by simp (maxSteps:=1000000) [hF,dR,hvm,hnm,hm,hk]) ?_;rintro av X κ ⟨rfl,rfl,rfl⟩;simp (maxSteps:=1000000) [hF,dR,hvm,hnm,hm,hk]
    repeat first|refine n1 ?_|((first|refine rg 2 [] [8] [] ?_|refine nc ?_);simp (maxSteps:=1000000) [hF])
    (try refine nr ?_);(repeat first|refine nb_ ?_|refine nl_ ?_);refine endK.o [8] [0] [(0,[.d])] ?_;simp [hF,retK,covers,mpre,dR,hc]
end Go.Proofs.YtbhigdljojlhnaaGreat
