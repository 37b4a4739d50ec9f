/- Trees of deep values and where they lie in memory: plain facts, no program in sight. -/
import Derived.Calls
import Derived.Laws.Rows
import Derived.MapKept
import Derived.Laws.Append
import Derived.Laws.AppendOwn
import Derived.Laws.Entries
import Derived.WideKeyRuns
import Derived.Laws.StructEq
import Derived.Laws.Strings
namespace Go.Vc
set_option linter.all false
inductive Step where
 | f (i:Nat)
 | i (k:Nat)
 | d
 deriving DecidableEq
abbrev Path:=List Step
inductive T (α:Type) where
 | val (v:Value)
 | junk (a:α)
 | nil
 | cons (h t:T α)
 | agg (s:T α)
 | sl (own:Bool) (a:α) (z:Nat) (s:T α)
 | box (own:Bool) (a:α) (g:T α)
 | map (own:Bool) (a:α) (s:T α)
abbrev D:=T Unit
abbrev G:=T Value
namespace T
variable {α:Type}
def nth:T α→Nat→T α
 | .cons h _,0=>h
 | .cons _ t,k + 1=>t.nth k
 | _,_=>.nil
def len:T α→Nat
 | .cons _ t=>t.len + 1
 | _=>0
def width:T α→Nat
 | .nil=>0
 | .cons h t=>h.width + t.width
 | .agg s=>s.width
 | .val _ | .junk _ | .sl _ _ _ _ | .box _ _ _ | .map _ _ _=>1
def offs:T α→Nat→Nat
 | .cons h t,i + 1=>h.width + t.offs i
 | _,_=>0
def setN:T α→Nat→T α→T α
 | .cons _ t,0,x=>.cons x t
 | .cons h t,k + 1,x=>.cons h (t.setN k x)
 | s,_,_=>s
def at_ (g:T α):Path→T α
 | []=>g
 | st :: p=>match g,st with
  | .agg s,.f i=>(s.nth i).at_ p
  | .sl _ _ _ s,.i k=>(s.nth k).at_ p
  | .box _ _ g,.d=>g.at_ p
  | .map _ _ s,.i k=>(s.nth k).at_ p
  | _,_=>.nil
def set (g:T α):Path→T α→T α
 | [],x=>x
 | st :: p,x=>match g,st with
  | .agg s,.f i=>.agg (s.setN i ((s.nth i).set p x))
  | .sl o a z s,.i k=>.sl o a z (s.setN k ((s.nth k).set p x))
  | .box o a g,.d=>.box o a (g.set p x)
  | .map o a s,.i k=>.map o a (s.setN k ((s.nth k).set p x))
  | g,_=>g
def free:T α→Bool
 | .cons h t=>h.free && t.free
 | .agg s=>s.free
 | .sl o _ _ s=>!o && s.free
 | .box o _ g=>!o && g.free
 | .map o _ s=>!o && s.free
 | _=>true
def uni (z:Nat):T α→Prop
 | .nil=>True
 | .cons h t=>h.width = z∧t.uni z
 | _=>False
def erase:T α→D
 | .val v=>.val v
 | .junk _=>.junk ()
 | .nil=>.nil
 | .cons h t=>.cons h.erase t.erase
 | .agg s=>.agg s.erase
 | .sl o _ z s=>.sl o () z s.erase
 | .box o _ g=>.box o () g.erase
 | .map o _ s=>.map o () s.erase
theorem erase_nth (s:T α) (k:Nat):(s.nth k).erase = s.erase.nth k:=by
 induction s generalizing k with
 | cons h t _ iht=>cases k with
  | zero=>rfl
  | succ k=>simpa [nth,erase] using iht k
 | _=>simp [nth,erase]
theorem erase_len (s:T α):s.erase.len = s.len:=by
 induction s with
 | cons h t _ iht=>simp [len,erase,iht]
 | _=>simp [len,erase]
theorem erase_width (s:T α):s.erase.width = s.width:=by
 induction s with
 | cons h t ihh iht=>simp [width,erase,ihh,iht]
 | agg s ih=>simp [width,erase,ih]
 | _=>simp [width,erase]
theorem erase_free (s:T α):s.erase.free = s.free:=by
 induction s with
 | cons h t ihh iht=>simp [free,erase,ihh,iht]
 | agg s ih=>simp [free,erase,ih]
 | sl o a z s ih=>simp [free,erase,ih]
 | box o a s ih=>simp [free,erase,ih]
 | map o a s ih=>simp [free,erase,ih]
 | _=>simp [free,erase]
theorem erase_at (g:T α) (p:Path):(g.at_ p).erase = g.erase.at_ p:=by
 induction p generalizing g with
 | nil=>rfl
 | cons st p ih=>cases g <;> cases st <;> simp [at_,erase,ih,erase_nth]
theorem erase_setN (s:T α) (k:Nat) (x:T α):(s.setN k x).erase = s.erase.setN k x.erase:=by
 induction s generalizing k with
 | cons h t _ iht=>cases k with
  | zero=>rfl
  | succ k=>simp [setN,erase,iht]
 | _=>simp [setN,erase]
theorem erase_set (g:T α) (p:Path) (x:T α):(g.set p x).erase = g.erase.set p x.erase:=by
 induction p generalizing g with
 | nil=>rfl
 | cons st p ih=>cases g <;> cases st <;> simp [set,erase,ih,erase_nth,erase_setN]
theorem nth_ge {s:T α} {k:Nat} (h:s.len≤k):s.nth k = .nil:=by
 induction s generalizing k with
 | cons a t _ iht=>cases k with
  | zero=>simp [len] at h
  | succ k=>simp only [nth];exact iht (by simpa [len] using h)
 | _=>rfl
theorem len_setN (s:T α) (k:Nat) (x:T α):(s.setN k x).len = s.len:=by
 induction s generalizing k with
 | cons h t _ iht=>cases k <;> simp [setN,len,iht]
 | _=>simp [setN,len]
theorem nth_setN_same {s:T α} {k:Nat} (x:T α) (h:k < s.len):(s.setN k x).nth k = x:=by
 induction s generalizing k with
 | cons a t _ iht=>cases k with
  | zero=>rfl
  | succ k=>simpa [setN,nth] using iht (by simpa [len] using h)
 | _=>simp [len] at h
theorem nth_setN_other {s:T α} {k j:Nat} (x:T α) (h:j≠k):(s.setN k x).nth j = s.nth j:=by
 induction s generalizing k j with
 | cons a t _ iht=>cases k <;> cases j <;> simp_all [setN,nth]
 | _=>simp [setN]
theorem width_setN {s:T α} {k:Nat} {x:T α} (h:x.width = (s.nth k).width):(s.setN k x).width = s.width:=by
 induction s generalizing k with
 | cons a t _ iht=>cases k with
  | zero=>simp [setN,width,h,nth]
  | succ k=>simp [setN,width,iht (k:=k) (by simpa [nth] using h)]
 | _=>simp [setN]
theorem offs_setN {s:T α} {k:Nat} {x:T α} (h:x.width = (s.nth k).width) (j:Nat):(s.setN k x).offs j = s.offs j:=by
 induction s generalizing k j with
 | cons a t _ iht=>cases k with
  | zero=>cases j <;> simp [setN,offs,h,nth]
  | succ k=>cases j with
   | zero=>simp [setN,offs]
   | succ j=>simp [setN,offs,iht (k:=k) (by simpa [nth] using h)]
 | _=>simp [setN]
theorem uni_setN {z:Nat} {s:T α} {k:Nat} {x:T α} (hs:s.uni z) (h:x.width = (s.nth k).width):(s.setN k x).uni z:=by
 induction s generalizing k with
 | cons a t _ iht =>
  obtain ⟨h1,h2⟩:=hs
  cases k with
  | zero=>exact ⟨by rw [h];simpa [nth] using h1,h2⟩
  | succ k=>exact ⟨h1,iht h2 (by simpa [nth] using h)⟩
 | _=>exact hs
theorem uni_offs {z:Nat} {s:T α} (hs:s.uni z) {k:Nat} (hk:k≤s.len):s.offs k = k * z:=by
 induction s generalizing k with
 | cons a t _ iht =>
  obtain ⟨h1,h2⟩:=hs
  cases k with
  | zero=>simp [offs]
  | succ k=>simp only [offs,h1,iht h2 (k:=k) (by simpa [len] using hk),Nat.succ_mul];omega
 | _=>cases k <;> simp_all [offs,len]
theorem uni_width {z:Nat} {s:T α} (hs:s.uni z):s.width = s.len * z:=by
 induction s with
 | cons a t _ iht =>
  obtain ⟨h1,h2⟩:=hs
  simp only [width,len,h1,iht h2,Nat.succ_mul];omega
 | nil=>simp [width,len]
 | _=>exact hs.elim
theorem free_nth {s:T α} (h:s.free = true) (k:Nat):(s.nth k).free = true:=by
 induction s generalizing k with
 | cons a t _ iht =>
  simp only [free,Bool.and_eq_true] at h
  cases k with
  | zero=>exact h.1
  | succ k=>exact iht h.2 k
 | _=>simp [nth,free]
theorem free_at {g:T α} (h:g.free = true) (p:Path):(g.at_ p).free = true:=by
 induction p generalizing g with
 | nil=>exact h
 | cons st p ih =>
  cases g <;> cases st <;> simp only [at_] <;> first
   | rfl
   | (simp only [free,Bool.and_eq_true] at h;first | exact ih h.2 | exact ih (free_nth h.2 _))
   | (simp only [free] at h;exact ih (free_nth h _))
theorem width_set {g:T α} {p:Path} {x:T α} (h:x.width = (g.at_ p).width):(g.set p x).width = g.width:=by
 induction p generalizing g with
 | nil=>simpa [set,at_] using h
 | cons st p ih =>
  cases g <;> cases st <;> simp only [set,width] <;>
   (simp only [at_] at h;exact width_setN (ih h))
theorem at_append (g:T α) (p q:Path):g.at_ (p ++ q) = (g.at_ p).at_ q:=by
 induction p generalizing g with
 | nil=>rfl
 | cons st p ih=>cases g <;> cases st <;> simp [at_,ih] <;> (cases q <;> simp [at_])
end T
end Go.Vc

/- Decorated trees: their header cells, the blocks that they own, what it means that memory holds them, and where a path leads; plain facts on memory, no program in sight. -/
namespace Go.Vc
set_option linter.all false
namespace T
def blk:Value→List Nat
 | .slice (some a) _ (_ + 1)=>[a.block]
 | .pointer (some a)=>[a.block]
 | .map (some r)=>[r]
 | _=>[]
def cells:G→List Value
 | .val v=>[v]
 | .junk a=>[a]
 | .nil=>[]
 | .cons h t=>h.cells ++ t.cells
 | .agg s=>s.cells
 | .sl _ a _ _=>[a]
 | .box _ a _=>[a]
 | .map _ a _=>[a]
def owned:G→List Nat
 | .cons h t=>h.owned ++ t.owned
 | .agg s=>s.owned
 | .sl true a _ s=>blk a ++ s.owned
 | .box true a g=>blk a ++ g.owned
 | .map true a s=>blk a ++ s.owned
 | _=>[]
def aggy {α:Type}:T α→Bool
 | .agg _=>true
 | _=>false
def vAgg:Value→Bool
 | .agg _=>true
 | _=>false
theorem aggy_set {α:Type} {v x:T α} {p:Path} (h:p≠[]):aggy (v.set p x) = aggy v:=by
 cases p with
 | nil=>exact absurd rfl h
 | cons st p=>cases v <;> cases st <;> rfl
def sqv {α:Type}:List Value→T α
 | []=>.nil
 | v :: l=>.cons (.val v) (sqv l)
def keyT {α:Type}:Value→T α
 | .agg vs=>.agg (sqv vs.toList)
 | v=>.val v
theorem sqv_inj {α:Type}:∀ {l m:List Value},(sqv l:T α) = sqv m→l = m
 | [],[],_=>rfl
 | [],_ :: _,h=>by cases h
 | _ :: _,[],h=>by cases h
 | a :: l,b :: m,h=>by
  simp only [sqv,cons.injEq,val.injEq] at h
  rw [h.1,sqv_inj h.2]
theorem keyT_form {α:Type} (v:Value):(∃ vs,v = .agg vs∧(keyT v:T α) = .agg (sqv vs.toList))∨(vAgg v = false∧(keyT v:T α) = .val v):=by
 cases v <;> first | exact .inr ⟨rfl,rfl⟩ | exact .inl ⟨_,rfl,rfl⟩
theorem keyT_inj {α:Type} {a b:Value} (h:(keyT a:T α) = keyT b):a = b:=by
 rcases keyT_form (α:=α) a with ⟨x,rfl,e1⟩ | ⟨n1,e1⟩ <;> rcases keyT_form (α:=α) b with ⟨y,rfl,e2⟩ | ⟨n2,e2⟩ <;> rw [e1,e2] at h
 ·simp only [agg.injEq] at h
  rw [Array.toList_inj.1 (sqv_inj h)]
 ·cases h
 ·cases h
 ·cases h;rfl
theorem sqv_erase {α:Type}:∀ l:List Value,(sqv l:T α).erase = sqv l
 | []=>rfl
 | v :: l=>by simp [sqv,erase,sqv_erase l]
theorem keyT_erase {α:Type} (v:Value):(keyT v:T α).erase = keyT v:=by
 rcases keyT_form (α:=α) v with ⟨x,rfl,e1⟩ | ⟨n1,e1⟩
 ·rw [e1];simp only [erase,sqv_erase];rfl
 ·rw [e1];cases v <;> first | rfl | cases n1
theorem sqv_nth {α:Type}:∀ (l:List Value) (i:Nat),(∃ v,(sqv l:T α).nth i = .val v)∨(sqv l:T α).nth i = .nil
 | [],_=>.inr rfl
 | v :: _,0=>.inl ⟨v,rfl⟩
 | _ :: l,i + 1=>sqv_nth l i
theorem sqv_owned (l:List Value):(sqv l).owned = []:=by
 induction l with
 | nil=>rfl
 | cons v l ih=>simp [sqv,owned,ih]
theorem keyT_owned (v:Value):(keyT v).owned = []:=by
 rcases keyT_form (α:=Value) v with ⟨x,rfl,e1⟩ | ⟨n1,e1⟩
 ·rw [e1];exact sqv_owned _
 ·rw [e1];rfl
def entriesAre:List MapEntry→G→Prop
 | [],.nil=>True
 | e :: es,.cons (.agg (.cons K (.cons v .nil))) t=>K = keyT e.key∧(v.cells = e.val.cells.toList∧aggy v = vAgg e.val)∧entriesAre es t
 | _,_=>False
def RowAt (h:Array Obj) (b off:Nat) (cs:List Value):Prop :=
 ∃ row e fr,h[b]? = some (.cells row e fr)∧∀ j v,cs[j]? = some v→row[off + j]? = some v
def Holds (h:Array Obj) (I:Nat→Prop):G→Prop
 | .val v=>v.oneCell' = true
 | .junk a=>a.oneCell' = true
 | .nil=>True
 | .cons x t=>Holds h I x∧Holds h I t
 | .agg s=>Holds h I s
 | .sl own a z s=>Holds h I s∧s.uni z∧(own = false→s.free = true) ∧
   match a with
   | .slice none n c=>n = 0∧c = 0∧s.len = 0
   | .slice (some x) n 0=>n = 0∧(own = true→x.spot = none)∧s.len = 0
   | .slice (some x) n (c + 1)=>x.spot = none∧n = s.len∧n≤c + 1∧c + 1≤2 ^ 63 - 1∧(own = false→I x.block) ∧
     ∃ row e fr,h[x.block]? = some (.cells row e fr)∧(own = true→fr = (0,0))∧x.off + (c + 1) * z≤row.size∧∀ j v,s.cells[j]? = some v→row[x.off + j]? = some v
   | _=>False
 | .box own a g=>Holds h I g∧(own = false→g.free = true) ∧
   match a with
   | .pointer (some x)=>x.spot = none∧(own = false→I x.block)∧(own = true→x.off = 0∧∃ row e,h[x.block]? = some (.cells row e (0,0)))∧RowAt h x.block x.off g.cells
   | _=>False
 | .map own a s=>Holds h I s∧(own = false→s.free = true) ∧
   match a with
   | .map (some r)=>(own = false→I r)∧∃ es c,h[r]? = some (.map es c)∧entriesAre es.toList s∧Go.MapKept.Stamped es c
   | _=>False
theorem cells_length (g:G):g.cells.length = g.width:=by
 induction g with
 | cons h t ihh iht=>simp [cells,width,ihh,iht]
 | agg s ih=>simpa [cells,width] using ih
 | _=>simp [cells,width]
theorem owned_free {g:G} (h:g.free = true):g.owned = []:=by
 induction g with
 | cons a t iha iht=>simp only [free,Bool.and_eq_true] at h;simp [owned,iha h.1,iht h.2]
 | agg s ih=>exact ih h
 | sl o a z s ih=>cases o <;> simp_all [free,owned]
 | box o a s ih=>cases o <;> simp_all [free,owned]
 | map o a s ih=>cases o <;> simp_all [free,owned]
 | _=>rfl
theorem Holds.agree {h h':Array Obj} {I I':Nat→Prop} {g:G} (H:Holds h I g) (ho:∀ b∈g.owned,h'[b]? = h[b]?) (hi:∀ b,I b→h'[b]? = h[b]?)
  (hI:∀ b,I b→I' b):Holds h' I' g:=by
 induction g with
 | val v=>exact H
 | junk a=>exact H
 | nil=>trivial
 | cons x t ihx iht=>exact ⟨ihx H.1 fun b hb=>ho b (by simp [owned,hb]),iht H.2 fun b hb=>ho b (by simp [owned,hb])⟩
 | agg s ih=>exact ih H ho
 | sl own a z s ih =>
  obtain ⟨h1,h2,h3,h4⟩:=H
  refine ⟨ih h1 fun b hb=>?_,h2,h3,?_⟩
  ·cases own
   ·rw [owned_free (h3 rfl)] at hb;cases hb
   ·exact ho b (by simp [owned,hb])
  ·split at h4
   ·exact h4
   ·exact h4
   ·rename_i x n c
    obtain ⟨g1,g2,g3,g4,g5,row,e,fr,g6,g7⟩:=h4
    refine ⟨g1,g2,g3,g4,fun hf=>hI _ (g5 hf),row,e,fr,?_,g7⟩
    rw [←g6]
    cases own
    ·exact hi _ (g5 rfl)
    ·exact ho _ (by simp [owned,blk])
   ·exact h4.elim
 | box own a g ih =>
  obtain ⟨h1,h3,h4⟩:=H
  refine ⟨ih h1 fun b hb=>?_,h3,?_⟩
  ·cases own
   ·rw [owned_free (h3 rfl)] at hb;cases hb
   ·exact ho b (by simp [owned,hb])
  ·split at h4
   ·rename_i x
    obtain ⟨g1,g5,gz,row,e,fr,g6,g7⟩:=h4
    have hsame:h'[x.block]? = h[x.block]?:=by
     cases own
     ·exact hi _ (g5 rfl)
     ·exact ho _ (by simp [owned,blk])
    exact ⟨g1,fun hf=>hI _ (g5 hf),fun hf=>by rw [hsame];exact gz hf,row,e,fr,by rw [hsame];exact g6,g7⟩
   ·exact h4.elim
 | map own a s ih =>
  obtain ⟨h1,h3,h4⟩:=H
  refine ⟨ih h1 fun b hb=>?_,h3,?_⟩
  ·cases own
   ·rw [owned_free (h3 rfl)] at hb;cases hb
   ·exact ho b (by simp [owned,hb])
  ·split at h4
   ·rename_i r
    obtain ⟨g5,es,c,g6,g7⟩:=h4
    refine ⟨fun hf=>hI _ (g5 hf),es,c,?_,g7⟩
    rw [←g6]
    cases own
    ·exact hi _ (g5 rfl)
    ·exact ho _ (by simp [owned,blk])
   ·exact h4.elim
theorem Holds.nth {h:Array Obj} {I:Nat→Prop} {s:G} (H:Holds h I s) (k:Nat):Holds h I (s.nth k):=by
 induction s generalizing k with
 | cons a t _ iht=>cases k with
  | zero=>exact H.1
  | succ k=>exact iht H.2 k
 | _=>simp [T.nth,Holds]
theorem Holds.at_ {h:Array Obj} {I:Nat→Prop} {g:G} (H:Holds h I g) (p:Path):Holds h I (g.at_ p):=by
 induction p generalizing g with
 | nil=>exact H
 | cons st p ih =>
  cases g <;> cases st <;> simp only [T.at_] <;> first
   | trivial
   | exact ih (Holds.nth (I:=I) (h:=h) H.1 _)
   | exact ih H.1
   | (rename_i s i;exact ih (Holds.nth (s:=s) H _))
theorem owned_nth_sublist (s:G) (k:Nat):(s.nth k).owned.Sublist s.owned:=by
 induction s generalizing k with
 | cons a t _ iht=>cases k with
  | zero=>simp [T.nth,owned]
  | succ k=>exact (iht k).trans (by simp [owned])
 | _=>simp [T.nth,owned]
theorem owned_at_sublist {h:Array Obj} {I:Nat→Prop} {g:G} (H:Holds h I g) (p:Path):(g.at_ p).owned.Sublist g.owned:=by
 induction p generalizing g with
 | nil=>exact List.Sublist.refl _
 | cons st p ih =>
  cases g <;> cases st <;> simp only [T.at_] <;> try exact List.nil_sublist _
  case agg.f s i=>exact (ih (Holds.nth (s:=s) H i)).trans (owned_nth_sublist s i)
  case sl.i own a z s k =>
   cases own
   ·rw [owned_free (free_at (free_nth (H.2.2.1 rfl) k) p)];exact List.nil_sublist _
   ·exact ((ih (Holds.nth H.1 _)).trans (owned_nth_sublist s k)).trans (by simp [owned])
  case box.d own a g =>
   cases own
   ·rw [owned_free (free_at (H.2.1 rfl) p)];exact List.nil_sublist _
   ·exact (ih H.1).trans (by simp [owned])
  case map.i own a s k =>
   cases own
   ·rw [owned_free (free_at (free_nth (H.2.1 rfl) k) p)];exact List.nil_sublist _
   ·exact ((ih (Holds.nth H.1 _)).trans (owned_nth_sublist s k)).trans (by simp [owned])
end T
inductive Loc where
 | rel (o:Nat)
 | abs (b o:Nat)
namespace T
def headAt:Value→Option (Nat×Nat)
 | .slice (some x) _ (_ + 1)=>some (x.block,x.off)
 | .pointer (some x)=>some (x.block,x.off)
 | _=>none
def loc (g:G):Path→Option Loc
 | []=>some (.rel 0)
 | st :: p=>match g,st with
  | .agg s,.f i=>if i < s.len then
    match (s.nth i).loc p with
    | some (.rel o)=>some (.rel (s.offs i + o))
    | r=>r
   else none
  | .sl _ a z s,.i k=>if k < s.len then
    match (s.nth k).loc p,headAt a with
    | some (.rel o),some (b,off)=>some (.abs b (off + (k * z + o)))
    | some (.abs b o),_=>some (.abs b o)
    | _,_=>none
   else none
  | .box _ a g,.d =>
    match g.loc p,headAt a with
    | some (.rel o),some (b,off)=>some (.abs b (off + o))
    | some (.abs b o),_=>some (.abs b o)
    | _,_=>none
  | .map _ _ s,.i k=>if k < s.len then
    match (s.nth k).loc p with
    | some (.abs b o)=>some (.abs b o)
    | _=>none
   else none
  | _,_=>none
theorem keyT_loc {v:Value} {p:Path} {b o:Nat}:¬ (keyT v).loc p = some (.abs b o):=by
 rcases keyT_form (α:=Value) v with ⟨x,rfl,e1⟩ | ⟨n1,e1⟩
 ·rw [e1]
  cases p with
  | nil=>simp [loc]
  | cons st p =>
   cases st <;> simp only [loc] <;> try (intro h;cases h)
   rename_i i
   split
   ·rcases sqv_nth (α:=Value) x.toList i with ⟨u,e⟩ | e <;> rw [e] <;> cases p with
    | nil=>simp [loc]
    | cons st p=>cases st <;> simp [loc]
   ·simp
 ·rw [e1]
  cases p with
  | nil=>simp [loc]
  | cons st p=>cases st <;> simp [loc]
theorem cells_nth {s:G} {k:Nat} (hk:k < s.len) {j:Nat} {v:Value} (h:(s.nth k).cells[j]? = some v):s.cells[s.offs k + j]? = some v:=by
 induction s generalizing k with
 | cons a t _ iht =>
  cases k with
  | zero =>
   simp only [T.nth] at h
   have hj:j < a.cells.length:=by
    rcases Nat.lt_or_ge j a.cells.length with h' | h'
    ·exact h'
    ·rw [List.getElem?_eq_none h'] at h;cases h
   simp only [offs,cells,Nat.zero_add]
   rw [List.getElem?_append_left hj];exact h
  | succ k =>
   simp only [T.nth] at h
   have:=iht (k:=k) (by simpa [T.len] using hk) h
   simp only [offs,cells]
   rw [List.getElem?_append_right (by rw [cells_length];omega),cells_length,←this]
   congr 1;omega
 | _=>simp [T.len] at hk
theorem loc_read {h:Array Obj} {I:Nat→Prop} {g:G} (H:Holds h I g):∀ {p:Path} {l:Loc},g.loc p = some l →
  match l with
  | .rel o=>∀ j v,(g.at_ p).cells[j]? = some v→g.cells[o + j]? = some v
  | .abs b o=>RowAt h b o (g.at_ p).cells:=by
 intro p
 induction p generalizing g with
 | nil =>
  intro l hl
  simp only [loc,Option.some.injEq] at hl
  subst hl
  intro j v hv
  simpa [at_] using hv
 | cons st p ih =>
  intro l hl
  cases g <;> cases st <;> simp only [loc] at hl <;> try cases hl
  case agg.f s i =>
   split at hl
   ·rename_i hi
    have h1:=fun l=>ih (Holds.nth (s:=s) H i) (l:=l)
    cases hr:(s.nth i).loc p with
    | none=>rw [hr] at hl;cases hl
    | some r =>
     rw [hr] at hl
     have h2:=h1 r hr
     cases r with
     | rel o =>
      simp only [Option.some.injEq] at hl
      subst hl
      intro j v hv
      have:=cells_nth hi (h2 j v hv)
      simp only [cells]
      rw [←this];congr 1;omega
     | abs b o=>simp only [Option.some.injEq] at hl;subst hl;exact h2
   ·cases hl
  case sl.i own a z s k =>
   split at hl
   ·rename_i hi
    have h1:=fun l=>ih (Holds.nth H.1 k) (l:=l)
    cases hr:(s.nth k).loc p with
    | none=>rw [hr] at hl;cases hl
    | some r =>
     rw [hr] at hl
     have h2:=h1 r hr
     cases r with
     | rel o =>
      obtain ⟨_,hu,_,h4⟩:=H
      cases ha:headAt a with
      | none=>rw [ha] at hl;cases hl
      | some q =>
       obtain ⟨b,off⟩:=q
       rw [ha] at hl
       simp only [Option.some.injEq] at hl
       subst hl
       split at h4
       ·simp [headAt] at ha
       ·simp [headAt] at ha
       ·rename_i x n c
        simp only [headAt,Option.some.injEq,Prod.mk.injEq] at ha
        obtain ⟨rfl,rfl⟩:=ha
        obtain ⟨_,_,_,_,_,row,e,fr,g6,_,_,g8⟩:=h4
        refine ⟨row,e,fr,g6,fun j v hv=>?_⟩
        have:=g8 _ _ (cells_nth hi (h2 j v hv))
        rw [uni_offs hu (Nat.le_of_lt hi)] at this
        rw [←this];congr 1;omega
       ·exact h4.elim
     | abs b o=>simp only [Option.some.injEq] at hl;subst hl;exact h2
   ·cases hl
  case box.d own a g =>
   have h1:=fun l=>ih H.1 (l:=l)
   cases hr:g.loc p with
   | none=>rw [hr] at hl;cases hl
   | some r =>
    rw [hr] at hl
    have h2:=h1 r hr
    cases r with
    | rel o =>
     obtain ⟨_,_,h4⟩:=H
     cases ha:headAt a with
     | none=>rw [ha] at hl;cases hl
     | some q =>
      obtain ⟨b,off⟩:=q
      rw [ha] at hl
      simp only [Option.some.injEq] at hl
      subst hl
      split at h4
      ·rename_i x
       simp only [headAt,Option.some.injEq,Prod.mk.injEq] at ha
       obtain ⟨rfl,rfl⟩:=ha
       obtain ⟨_,_,_,row,e,fr,g6,g8⟩:=h4
       refine ⟨row,e,fr,g6,fun j v hv=>?_⟩
       have:=g8 _ _ (h2 j v hv)
       rw [←this];congr 1;omega
      ·exact h4.elim
    | abs b o=>simp only [Option.some.injEq] at hl;subst hl;exact h2
  case map.i own a s k =>
   split at hl
   ·rename_i hi
    have h1:=fun l=>ih (Holds.nth H.1 k) (l:=l)
    cases hr:(s.nth k).loc p with
    | none=>rw [hr] at hl;cases hl
    | some r =>
     rw [hr] at hl
     have h2:=h1 r hr
     cases r with
     | rel o=>cases hl
     | abs b o=>simp only [Option.some.injEq] at hl;subst hl;exact h2
   ·cases hl
end T
end Go.Vc

/- What a change at the end of a path does to a tree that memory holds. Plain facts on memory. -/
namespace Go.Vc
set_option linter.all false
namespace T
def okp {α:Type} (g:T α):Path→Bool
 | []=>true
 | st :: p=>match g,st with
  | .agg s,.f i=>decide (i < s.len) && (s.nth i).okp p
  | .sl own _ _ s,.i k=>own && decide (k < s.len) && (s.nth k).okp p
  | .box own _ g,.d=>own && g.okp p
  | .map own _ s,.i k=>own && decide (k < s.len) && (s.nth k).okp p
  | _,_=>false
theorem okp_erase {α:Type} (g:T α) (p:Path):g.erase.okp p = g.okp p:=by
 induction p generalizing g with
 | nil=>rfl
 | cons st p ih=>cases g <;> cases st <;> simp [okp,erase,←erase_nth,ih,erase_len]
theorem loc_mine {h:Array Obj} {I:Nat→Prop} {b o:Nat}:∀ {p:Path} {g:G},Holds h I g→g.okp p = true→g.loc p = some (.abs b o)→∃ row e,h[b]? = some (.cells row e (0,0)):=by
 intro p
 induction p with
 | nil=>intro g _ _ hl;simp [loc] at hl
 | cons st p ih =>
  intro g H hk hl
  cases g <;> cases st <;> simp only [loc] at hl <;> try cases hl
  case agg.f s i =>
   simp only [okp,Bool.and_eq_true] at hk
   split at hl
   ·cases hr:(s.nth i).loc p with
    | none=>rw [hr] at hl;cases hl
    | some r =>
     rw [hr] at hl
     cases r with
     | rel o=>simp at hl
     | abs b' o'=>simp only [Option.some.injEq] at hl;rw [hl] at hr;exact ih (Holds.nth (s:=s) H i) hk.2 hr
   ·cases hl
  case sl.i own a z s k =>
   simp only [okp,Bool.and_eq_true] at hk
   obtain ⟨⟨hown,_⟩,hk⟩:=hk
   subst hown
   obtain ⟨H1,_,_,H4⟩:=H
   split at hl
   ·cases hr:(s.nth k).loc p with
    | none=>rw [hr] at hl;cases hl
    | some r =>
     rw [hr] at hl
     cases r with
     | rel o' =>
      cases ha:headAt a with
      | none=>rw [ha] at hl;cases hl
      | some q =>
       obtain ⟨b',off⟩:=q
       rw [ha] at hl
       simp only [Option.some.injEq,Loc.abs.injEq] at hl
       obtain ⟨rfl,_⟩:=hl
       split at H4
       ·simp [headAt] at ha
       ·simp [headAt] at ha
       ·rename_i x n c
        simp only [headAt,Option.some.injEq,Prod.mk.injEq] at ha
        obtain ⟨rfl,rfl⟩:=ha
        obtain ⟨_,_,_,_,_,row,e,fr,g6,gf,_⟩:=H4
        obtain rfl:=gf rfl
        exact ⟨row,e,g6⟩
       ·exact H4.elim
     | abs b' o'=>simp only [Option.some.injEq] at hl;rw [hl] at hr;exact ih (Holds.nth H1 k) hk hr
   ·cases hl
  case box.d own a g =>
   simp only [okp,Bool.and_eq_true] at hk
   obtain ⟨hown,hk⟩:=hk
   subst hown
   obtain ⟨H1,_,H4⟩:=H
   cases hr:g.loc p with
   | none=>rw [hr] at hl;cases hl
   | some r =>
    rw [hr] at hl
    cases r with
    | rel o' =>
     cases ha:headAt a with
     | none=>rw [ha] at hl;cases hl
     | some q =>
      obtain ⟨b',off⟩:=q
      rw [ha] at hl
      simp only [Option.some.injEq,Loc.abs.injEq] at hl
      obtain ⟨rfl,_⟩:=hl
      split at H4
      ·rename_i x
       simp only [headAt,Option.some.injEq,Prod.mk.injEq] at ha
       obtain ⟨rfl,rfl⟩:=ha
       exact (H4.2.2.1 rfl).2
      ·exact H4.elim
    | abs b' o'=>simp only [Option.some.injEq] at hl;rw [hl] at hr;exact ih H1 hk hr
  case map.i own a s k =>
   simp only [okp,Bool.and_eq_true] at hk
   split at hl
   ·cases hr:(s.nth k).loc p with
    | none=>rw [hr] at hl;cases hl
    | some r =>
     rw [hr] at hl
     cases r with
     | rel o'=>cases hl
     | abs b' o'=>simp only [Option.some.injEq] at hl;rw [hl] at hr;exact ih (Holds.nth H.1 k) hk.2 hr
   ·cases hl
end T
end Go.Vc

/- Memory holds a tree that was changed at the end of a path. Plain facts on memory. -/
namespace Go.Vc
set_option linter.all false
namespace T
def restN:G→Nat→List Nat
 | .cons _ t,0=>t.owned
 | .cons h t,k + 1=>h.owned ++ t.restN k
 | _,_=>[]
def rest (g:G):Path→List Nat
 | []=>[]
 | st :: p=>match g,st with
  | .agg s,.f i=>s.restN i ++ (s.nth i).rest p
  | .sl _ a _ s,.i k=>blk a ++ (s.restN k ++ (s.nth k).rest p)
  | .box _ a g,.d=>blk a ++ g.rest p
  | .map _ a s,.i k=>blk a ++ (s.restN k ++ (s.nth k).rest p)
  | _,_=>[]
theorem count_restN {s:G} {k:Nat} (hk:k < s.len) (b:Nat) :
  s.owned.count b = (s.nth k).owned.count b + (s.restN k).count b∧∀ x,(s.setN k x).owned.count b = x.owned.count b + (s.restN k).count b:=by
 induction s generalizing k with
 | cons a t _ iht =>
  cases k with
  | zero=>exact ⟨by simp [owned,T.nth,restN,List.count_append],fun x=>by simp [owned,setN,restN,List.count_append]⟩
  | succ k =>
   obtain ⟨h1,h2⟩:=iht (k:=k) (by simpa [T.len] using hk)
   refine ⟨?_,fun x=>?_⟩
   ·simp only [owned,T.nth,restN,List.count_append,h1];omega
   ·simp only [owned,setN,restN,List.count_append,h2];omega
 | _=>simp [T.len] at hk
theorem count_rest {g:G} {p:Path} (h:g.okp p = true) (b:Nat) :
  g.owned.count b = (g.at_ p).owned.count b + (g.rest p).count b∧∀ x,(g.set p x).owned.count b = x.owned.count b + (g.rest p).count b:=by
 induction p generalizing g with
 | nil=>exact ⟨by simp [T.at_,rest],fun x=>by simp [T.set,rest]⟩
 | cons st p ih =>
  cases g <;> cases st <;> simp only [okp,Bool.and_eq_true,decide_eq_true_eq] at h <;> try cases h
  case agg.f.intro s i hi h =>
   obtain ⟨h1,h2⟩:=ih h
   obtain ⟨g1,g2⟩:=count_restN hi b
   exact ⟨by simp only [owned,T.at_,rest,List.count_append,g1,h1];omega,fun x=>by simp only [owned,T.set,rest,List.count_append,g2,h2];omega⟩
  case sl.i.intro own a z s k hi h =>
   obtain ⟨ho,hi⟩:=hi
   subst ho
   obtain ⟨h1,h2⟩:=ih h
   obtain ⟨g1,g2⟩:=count_restN hi b
   exact ⟨by simp only [owned,T.at_,rest,List.count_append,g1,h1];omega,fun x=>by simp only [owned,T.set,rest,List.count_append,g2,h2];omega⟩
  case box.d.intro own a g ho h =>
   subst ho
   obtain ⟨h1,h2⟩:=ih h
   exact ⟨by simp only [owned,T.at_,rest,List.count_append,h1];omega,fun x=>by simp only [owned,T.set,rest,List.count_append,h2];omega⟩
  case map.i.intro own a s k hi h =>
   obtain ⟨ho,hi⟩:=hi
   subst ho
   obtain ⟨h1,h2⟩:=ih h
   obtain ⟨g1,g2⟩:=count_restN hi b
   exact ⟨by simp only [owned,T.at_,rest,List.count_append,g1,h1];omega,fun x=>by simp only [owned,T.set,rest,List.count_append,g2,h2];omega⟩
theorem abs_rest {g:G}:∀ {p:Path} {b o:Nat},g.okp p = true→g.loc p = some (.abs b o)→b∈g.rest p:=by
 have hb:∀ {a:Value} {b off},headAt a = some (b,off)→b∈blk a:=by
  intro a b off h
  unfold headAt at h
  split at h <;> simp_all [blk]
 intro p
 induction p generalizing g with
 | nil=>intro b o _ hl;simp [loc] at hl
 | cons st p ih =>
  intro b o hk hl
  cases g <;> cases st <;> simp only [loc] at hl <;> try cases hl
  case agg.f s i =>
   simp only [okp,Bool.and_eq_true] at hk
   split at hl
   ·cases hr:(s.nth i).loc p with
    | none=>rw [hr] at hl;cases hl
    | some r =>
     rw [hr] at hl
     cases r with
     | rel o'=>cases hl
     | abs b' o' =>
      simp only [Option.some.injEq,Loc.abs.injEq] at hl
      obtain ⟨rfl,rfl⟩:=hl
      simp only [rest,List.mem_append]
      exact .inr (ih hk.2 hr)
   ·cases hl
  case sl.i own a z s k =>
   simp only [okp,Bool.and_eq_true] at hk
   split at hl
   ·cases hr:(s.nth k).loc p with
    | none=>rw [hr] at hl;cases hl
    | some r =>
     rw [hr] at hl
     cases r with
     | rel o' =>
      cases ha:headAt a with
      | none=>rw [ha] at hl;cases hl
      | some q =>
       rw [ha] at hl
       simp only [Option.some.injEq,Loc.abs.injEq] at hl
       obtain ⟨rfl,_⟩:=hl
       simp only [rest,List.mem_append]
       exact .inl (hb ha)
     | abs b' o' =>
      simp only [Option.some.injEq,Loc.abs.injEq] at hl
      obtain ⟨rfl,rfl⟩:=hl
      simp only [rest,List.mem_append]
      exact .inr (.inr (ih hk.2 hr))
   ·cases hl
  case box.d own a g =>
   simp only [okp,Bool.and_eq_true] at hk
   cases hr:g.loc p with
   | none=>rw [hr] at hl;cases hl
   | some r =>
    rw [hr] at hl
    cases r with
    | rel o' =>
     cases ha:headAt a with
     | none=>rw [ha] at hl;cases hl
     | some q =>
      rw [ha] at hl
      simp only [Option.some.injEq,Loc.abs.injEq] at hl
      obtain ⟨rfl,_⟩:=hl
      simp only [rest,List.mem_append]
      exact .inl (hb ha)
    | abs b' o' =>
     simp only [Option.some.injEq,Loc.abs.injEq] at hl
     obtain ⟨rfl,rfl⟩:=hl
     simp only [rest,List.mem_append]
     exact .inr (ih hk.2 hr)
  case map.i own a s k =>
   simp only [okp,Bool.and_eq_true] at hk
   split at hl
   ·cases hr:(s.nth k).loc p with
    | none=>rw [hr] at hl;cases hl
    | some r =>
     rw [hr] at hl
     cases r with
     | rel o'=>cases hl
     | abs b' o' =>
      simp only [Option.some.injEq,Loc.abs.injEq] at hl
      obtain ⟨rfl,rfl⟩:=hl
      simp only [rest,List.mem_append]
      exact .inr (.inr (ih hk.2 hr))
   ·cases hl
def Spl (l' l:List Value) (o n:Nat) (m:List Value):Prop :=
 ∀ j,(o≤j→j < o + n→l'[j]? = m[j - o]?)∧(j < o∨o + n≤j→l'[j]? = l[j]?)
theorem cells_setN {s:G} {k:Nat} (hk:k < s.len) {y:G} (hw:y.width = (s.nth k).width):Spl (s.setN k y).cells s.cells (s.offs k) y.width y.cells:=by
 induction s generalizing k with
 | cons a t _ iht =>
  cases k with
  | zero =>
   simp only [T.nth] at hw
   intro j
   simp only [setN,cells,offs]
   refine ⟨fun _ hj=>?_,fun hj=>?_⟩
   ·rw [List.getElem?_append_left (by rw [cells_length];omega)];congr 1
   ·rw [List.getElem?_append_right (by rw [cells_length];omega),List.getElem?_append_right (by rw [cells_length];omega),cells_length,cells_length,hw]
  | succ k =>
   simp only [T.nth] at hw
   intro j
   have h1:=iht (k:=k) (by simpa [T.len] using hk) hw (j - a.width)
   simp only [setN,cells,offs]
   by_cases hj:j < a.width
   ·rw [List.getElem?_append_left (by rw [cells_length];exact hj),List.getElem?_append_left (by rw [cells_length];exact hj)]
    exact ⟨fun h _=>by omega,fun _=>rfl⟩
   ·rw [List.getElem?_append_right (by rw [cells_length];omega),List.getElem?_append_right (by rw [cells_length];omega),cells_length]
    refine ⟨fun h2 h3=>?_,fun h2=>h1.2 (by omega)⟩
    rw [h1.1 (by omega) (by omega)];congr 1;omega
 | _=>simp [T.len] at hk
theorem offs_le:∀ {s:G} {k:Nat},k < s.len→s.offs k + (s.nth k).width≤s.width:=by
 intro s
 induction s with
 | cons a t _ iht =>
  intro k hk
  cases k with
  | zero=>simp [offs,T.nth,width]
  | succ k =>
   have:=iht (k:=k) (by simpa [T.len] using hk)
   simp only [offs,T.nth,width];omega
 | _=>intro k hk;simp [T.len] at hk
theorem loc_le {g:G} {p:Path} {o:Nat} (hl:g.loc p = some (.rel o)):o + (g.at_ p).width≤g.width:=by
 induction p generalizing g o with
 | nil=>simp only [loc,Option.some.injEq,Loc.rel.injEq] at hl;subst hl;simp [T.at_]
 | cons st p ih =>
  cases g <;> cases st <;> simp only [loc] at hl <;> try cases hl
  case agg.f s i =>
   split at hl
   ·rename_i hi
    cases hr:(s.nth i).loc p with
    | none=>rw [hr] at hl;cases hl
    | some r =>
     rw [hr] at hl
     cases r with
     | rel o' =>
      simp only [Option.some.injEq,Loc.rel.injEq] at hl
      subst hl
      have h1:=ih hr
      have:=offs_le hi
      simp only [T.at_,width];omega
     | abs b' o'=>cases hl
   ·cases hl
  case sl.i own a z s k =>
   split at hl
   ·split at hl <;> cases hl
   ·cases hl
  case box.d own a g=>split at hl <;> cases hl
  case map.i own a s k =>
   split at hl
   ·split at hl <;> cases hl
   ·cases hl
theorem cells_set_rel {g:G} {p:Path} {o:Nat} {x:G} (hl:g.loc p = some (.rel o)) (hw:x.width = (g.at_ p).width):Spl (g.set p x).cells g.cells o x.width x.cells:=by
 induction p generalizing g o with
 | nil =>
  simp only [loc,Option.some.injEq,Loc.rel.injEq] at hl
  subst hl
  intro j
  simp only [T.set]
  refine ⟨fun _ _=>rfl,fun hj=>?_⟩
  rw [List.getElem?_eq_none (by rw [cells_length];omega),List.getElem?_eq_none (by rw [cells_length];simp only [T.at_] at hw;omega)]
 | cons st p ih =>
  cases g <;> cases st <;> simp only [loc] at hl <;> try cases hl
  case agg.f s i =>
   split at hl
   ·rename_i hi
    cases hr:(s.nth i).loc p with
    | none=>rw [hr] at hl;cases hl
    | some r =>
     rw [hr] at hl
     cases r with
     | rel o' =>
      simp only [Option.some.injEq,Loc.rel.injEq] at hl
      subst hl
      simp only [T.at_] at hw
      have h1:=ih hr hw
      have hws:((s.nth i).set p x).width = (s.nth i).width:=width_set hw
      have hle:=loc_le hr
      have h0:=cells_setN hi hws
      intro j
      have h0:=h0 j
      have h1:=h1 (j - s.offs i)
      simp only [T.set,cells]
      refine ⟨fun h2 h3=>?_,fun h2=>?_⟩
      ·rw [h0.1 (by omega) (by omega),h1.1 (by omega) (by omega)];congr 1;omega
      ·by_cases hj:s.offs i≤j∧j < s.offs i + ((s.nth i).set p x).width
       ·rw [h0.1 hj.1 hj.2,h1.2 (by omega)]
        rw [hws] at hj
        have hv:j - s.offs i < (s.nth i).cells.length:=by rw [cells_length];omega
        have:=cells_nth hi (List.getElem?_eq_getElem hv)
        rw [List.getElem?_eq_getElem hv,←this];congr 1;omega
       ·rw [h0.2 (by omega)]
     | abs b' o'=>cases hl
   ·cases hl
  case sl.i own a z s k =>
   split at hl
   ·split at hl <;> cases hl
   ·cases hl
  case box.d own a g=>split at hl <;> cases hl
  case map.i own a s k =>
   split at hl
   ·split at hl <;> cases hl
   ·cases hl
theorem cells_set_abs {g:G}:∀ {p:Path} {b o:Nat} {x:G},g.loc p = some (.abs b o)→x.width = (g.at_ p).width→(g.set p x).cells = g.cells:=by
 intro p
 induction p generalizing g with
 | nil=>intro b o x hl;simp [loc] at hl
 | cons st p ih =>
  intro b o x hl hw
  cases g <;> cases st <;> simp only [loc] at hl <;> try cases hl
  case agg.f s i =>
   split at hl
   ·rename_i hi
    cases hr:(s.nth i).loc p with
    | none=>rw [hr] at hl;cases hl
    | some r =>
     rw [hr] at hl
     cases r with
     | rel o'=>cases hl
     | abs b' o' =>
      have h1:=ih hr hw
      simp only [T.set,cells]
      have key:∀ (s:G) (k:Nat) (y:G),y.cells = (s.nth k).cells→(s.setN k y).cells = s.cells:=by
       intro s
       induction s with
       | cons a t _ iht =>
        intro k y hy
        cases k with
        | zero=>simpa [setN,cells,T.nth] using hy
        | succ k=>simpa [setN,cells] using iht k y hy
       | _=>intro k y _;simp [setN]
      exact key s i _ h1
   ·cases hl
  case sl.i own a z s k=>rfl
  case box.d own a g=>rfl
  case map.i own a s k=>rfl
end T
end Go.Vc

/- Memory holds what a change at the end of a path leaves. Plain facts on memory. -/
namespace Go.Vc
set_option linter.all false
namespace T
theorem Holds.setN {h h':Array Obj} {I I':Nat→Prop} {s:G} (H:Holds h I s) {k:Nat} (hk:k < s.len) {y:G} (hy:Holds h' I' y)
  (ho:∀ b∈s.restN k,h'[b]? = h[b]?) (hi:∀ b,I b→h'[b]? = h[b]?) (hI:∀ b,I b→I' b):Holds h' I' (s.setN k y):=by
 induction s generalizing k with
 | cons a t _ iht =>
  cases k with
  | zero=>exact ⟨hy,Holds.agree H.2 ho hi hI⟩
  | succ k=>exact ⟨Holds.agree H.1 (fun b hb=>ho b (by simp [restN,hb])) hi hI,iht H.2 (by simpa [T.len] using hk) fun b hb=>ho b (by simp [restN,hb])⟩
 | _=>simp [T.len] at hk
theorem entries_set {es:List MapEntry} {s:G} (h:entriesAre es s) {k:Nat} {p:Path} {b o:Nat} {x:G} (hl:(s.nth k).loc p = some (.abs b o))
  (hw:x.width = ((s.nth k).at_ p).width):entriesAre es (s.setN k ((s.nth k).set p x)):=by
 induction es generalizing s k with
 | nil=>cases s <;> simp_all [entriesAre,setN]
 | cons e es ih =>
  unfold entriesAre at h
  split at h
  ·simp_all
  ·rename_i e' es' kk v t he
   obtain ⟨rfl,rfl⟩:=(List.cons.injEq .. ▸ he:e = e'∧es = es')
   obtain ⟨h1,h2,h3⟩:=h
   cases k with
   | zero =>
    simp only [T.nth] at hl hw ⊢
    cases p with
    | nil=>simp [loc] at hl
    | cons st p =>
     cases st <;> simp only [loc] at hl <;> try cases hl
     rename_i i
     split at hl
     ·rename_i hi
      simp only [T.len] at hi
      match i,hi with
      | 0,_ =>
       simp only [T.nth] at hl
       rw [h1] at hl
       cases hr:(keyT e.key:G).loc p with
       | none=>rw [hr] at hl;cases hl
       | some r =>
        rw [hr] at hl
        cases r with
        | rel o'=>cases hl
        | abs b' o'=>exact absurd hr keyT_loc
      | 1,_ =>
       simp only [T.nth] at hl
       cases hr:v.loc p with
       | none=>rw [hr] at hl;cases hl
       | some r =>
        rw [hr] at hl
        cases r with
        | rel o'=>cases hl
        | abs b' o' =>
         simp only [T.at_,T.nth] at hw
         simp only [setN,T.set,T.nth,entriesAre]
         exact ⟨h1,by rw [cells_set_abs hr hw,aggy_set (by rintro rfl;simp [loc] at hr)];exact h2,h3⟩
     ·cases hl
   | succ k =>
    simp only [T.nth] at hl hw ⊢
    simp only [setN,entriesAre]
    exact ⟨h1,h2,ih h3 hl hw⟩
  ·exact h.elim
def Turned (h h':Array Obj) (x:G):Loc→Prop
 | .rel _=>True
 | .abs b o=>∀ row e,h[b]? = some (.cells row e (0,0))→∃ row',h'[b]? = some (.cells row' e (0,0))∧row'.size = row.size ∧
   (∀ j,o≤j→j < o + x.width→row'[j]? = x.cells[j - o]?)∧(∀ j,(j < o∨o + x.width≤j)→row'[j]? = row[j]?)
theorem Holds.set {h h':Array Obj} {I I':Nat→Prop} {x:G} (hx:Holds h' I' x) (hi:∀ b,I b→h'[b]? = h[b]?) (hI:∀ b,I b→I' b) :
  ∀ {p:Path} {g:G} {l:Loc},Holds h I g→g.okp p = true→g.loc p = some l→x.width = (g.at_ p).width→(g.rest p).Nodup →
   (∀ b∈g.rest p,(∀ o,l≠.abs b o)→h'[b]? = h[b]?)→Turned h h' x l→Holds h' I' (g.set p x):=by
 intro p
 induction p with
 | nil=>intro g l _ _ _ _ _ _ _;exact hx
 | cons st p ih =>
  intro g l H hk hl hw hnd ho ht
  cases g <;> cases st <;> simp only [loc] at hl <;> try cases hl
  case agg.f s i =>
   simp only [okp,Bool.and_eq_true] at hk
   simp only [rest] at hnd ho
   simp only [T.at_] at hw
   split at hl
   ·rename_i hi'
    obtain ⟨nd1,nd2,nd3⟩:=List.nodup_append.1 hnd
    have hsib:∀ b∈s.restN i,h'[b]? = h[b]?:=fun b hb=>ho b (List.mem_append.2 (.inl hb)) fun o e=>by
     subst e
     cases hr:(s.nth i).loc p with
     | none=>rw [hr] at hl;cases hl
     | some r =>
      rw [hr] at hl
      cases r with
      | rel o'=>cases hl
      | abs b' o' =>
       simp only [Option.some.injEq,Loc.abs.injEq] at hl
       obtain ⟨rfl,rfl⟩:=hl
       exact nd3 _ hb _ (abs_rest hk.2 hr) rfl
    cases hr:(s.nth i).loc p with
    | none=>rw [hr] at hl;cases hl
    | some r =>
     rw [hr] at hl
     have hsub:Holds h' I' ((s.nth i).set p x):=by
      refine ih (Holds.nth (s:=s) H i) hk.2 hr hw nd2 (fun b hb hne=>ho b (List.mem_append.2 (.inr hb)) fun o e=>?_) ?_
      ·subst e
       cases r with
       | rel o'=>cases hl
       | abs b' o' =>
        simp only [Option.some.injEq,Loc.abs.injEq] at hl
        exact hne o' (by rw [hl.1])
      ·cases r with
       | rel o'=>trivial
       | abs b' o'=>simp only [Option.some.injEq] at hl;subst hl;exact ht
     exact Holds.setN (s:=s) H hi' hsub hsib hi hI
   ·cases hl
  case sl.i own a z s k =>
   simp only [okp,Bool.and_eq_true] at hk
   obtain ⟨⟨hown,hlt⟩,hk⟩:=hk
   subst hown
   simp only [rest] at hnd ho
   simp only [T.at_] at hw
   obtain ⟨H1,H2,H3,H4⟩:=H
   obtain ⟨nd1,nd2,nd3⟩:=List.nodup_append.1 hnd
   obtain ⟨nd4,nd5,nd6⟩:=List.nodup_append.1 nd2
   have hwn:((s.nth k).set p x).width = (s.nth k).width:=width_set hw
   split at hl
   ·rename_i hi'
    cases hr:(s.nth k).loc p with
    | none=>rw [hr] at hl;cases hl
    | some r =>
     rw [hr] at hl
     cases r with
     | rel o' =>
      cases ha:headAt a with
      | none=>rw [ha] at hl;cases hl
      | some q =>
       obtain ⟨b0,off⟩:=q
       rw [ha] at hl
       simp only [Option.some.injEq] at hl
       subst hl
       split at H4
       ·simp [headAt] at ha
       ·simp [headAt] at ha
       ·rename_i y n c
        simp only [headAt,Option.some.injEq,Prod.mk.injEq] at ha
        obtain ⟨rfl,rfl⟩:=ha
        obtain ⟨g1,g2,g3,g3',g4,row,e,fr,g6,gf,g7,g8⟩:=H4
        obtain rfl:=gf rfl
        have hne:∀ b,b∈s.restN k ++ (s.nth k).rest p→∀ o,(Loc.abs y.block (y.off + (k * z + o')):Loc)≠.abs b o:=fun b hb o e=>by
         simp only [Loc.abs.injEq] at e
         exact nd3 y.block (by simp [blk]) b hb e.1
        have hsib:∀ b∈s.restN k,h'[b]? = h[b]?:=fun b hb=>ho b (by simp [hb]) (hne b (by simp [hb]))
        have hsub:Holds h' I' ((s.nth k).set p x) :=
         ih (Holds.nth H1 k) hk hr hw nd5 (fun b hb _=>ho b (by simp [hb]) (hne b (by simp [hb]))) trivial
        refine ⟨Holds.setN H1 hi' hsub hsib hi hI,uni_setN H2 hwn,(by intro h0;cases h0),?_⟩
        obtain ⟨row',r1,r2,r3,r4⟩:=ht row e g6
        refine ⟨g1,by rw [len_setN];exact g2,g3,g3',(by intro h0;cases h0),row',e,_,r1,fun _=>rfl,by rw [r2];exact g7,fun j v hv=>?_⟩
        have hsp:=cells_setN hi' hwn j
        have hle:=loc_le hr
        rw [uni_offs H2 (Nat.le_of_lt hi')] at hsp
        by_cases hj:k * z≤j∧j < k * z + ((s.nth k).set p x).width
        ·rw [hsp.1 hj.1 hj.2] at hv
         have hs2:=cells_set_rel hr hw (j - k * z)
         by_cases h2:o'≤j - k * z∧j - k * z < o' + x.width
         ·rw [hs2.1 h2.1 h2.2] at hv
          rw [r3 _ (by omega) (by omega),←hv];congr 1;omega
         ·rw [hs2.2 (by omega)] at hv
          rw [r4 _ (by omega)]
          have:=cells_nth hi' hv
          rw [uni_offs H2 (Nat.le_of_lt hi')] at this
          have h9:=g8 _ _ this
          rw [←h9];congr 1;omega
        ·rw [hsp.2 (by omega)] at hv
         rw [r4 _ (by omega)]
         exact g8 _ _ hv
       ·exact H4.elim
     | abs b' o' =>
      simp only [Option.some.injEq] at hl
      subst hl
      have hb':=abs_rest hk hr
      have hsib:∀ b∈s.restN k,h'[b]? = h[b]?:=fun b hb=>ho b (by simp [hb]) fun o e=>by
       simp only [Loc.abs.injEq] at e
       exact nd6 b hb b' hb' e.1.symm
      have hsub:Holds h' I' ((s.nth k).set p x) :=
       ih (Holds.nth H1 k) hk hr hw nd5 (fun b hb hne=>ho b (by simp [hb]) hne) ht
      refine ⟨Holds.setN H1 hi' hsub hsib hi hI,uni_setN H2 hwn,(by intro h0;cases h0),?_⟩
      split at H4
      ·exact ⟨H4.1,H4.2.1,by rw [len_setN];exact H4.2.2⟩
      ·exact ⟨H4.1,H4.2.1,by rw [len_setN];exact H4.2.2⟩
      ·rename_i y n c
       obtain ⟨g1,g2,g3,g3',g4,row,e,fr,g6,gf,g7,g8⟩:=H4
       refine ⟨g1,by rw [len_setN];exact g2,g3,g3',(by intro h0;cases h0),row,e,fr,?_,gf,g7,?_⟩
       ·rw [ho y.block (by simp [blk]) fun o e=>by
         simp only [Loc.abs.injEq] at e
         exact nd3 y.block (by simp [blk]) b' (by simp [hb']) e.1.symm]
        exact g6
       ·have hc:(s.setN k ((s.nth k).set p x)).cells = s.cells:=by
         have:=cells_set_abs (g:=.agg s) (p:=.f k :: p) (b:=b') (o:=o') (x:=x) (by simp [loc,hi',hr]) (by simpa [T.at_] using hw)
         simpa [T.set,cells] using this
        rw [hc];exact g8
      ·exact H4.elim
   ·cases hl
  case box.d own a g =>
   simp only [okp,Bool.and_eq_true] at hk
   obtain ⟨hown,hk⟩:=hk
   subst hown
   simp only [rest] at hnd ho
   simp only [T.at_] at hw
   obtain ⟨H1,H3,H4⟩:=H
   obtain ⟨nd1,nd2,nd3⟩:=List.nodup_append.1 hnd
   cases hr:g.loc p with
   | none=>rw [hr] at hl;cases hl
   | some r =>
    rw [hr] at hl
    cases r with
    | rel o' =>
     cases ha:headAt a with
     | none=>rw [ha] at hl;cases hl
     | some q =>
      obtain ⟨b0,off⟩:=q
      rw [ha] at hl
      simp only [Option.some.injEq] at hl
      subst hl
      split at H4
      ·rename_i y
       simp only [headAt,Option.some.injEq,Prod.mk.injEq] at ha
       obtain ⟨rfl,rfl⟩:=ha
       obtain ⟨g1,g4,gz,row,e,fr,g6,g8⟩:=H4
       obtain ⟨z0,_,_,hz⟩:=gz rfl
       rw [g6] at hz
       cases hz
       have hne:∀ b,b∈g.rest p→∀ o,(Loc.abs y.block (y.off + o'):Loc)≠.abs b o:=fun b hb o e=>by
        simp only [Loc.abs.injEq] at e
        exact nd3 y.block (by simp [blk]) b hb e.1
       have hsub:Holds h' I' (g.set p x):=ih H1 hk hr hw nd2 (fun b hb _=>ho b (by simp [hb]) (hne b hb)) trivial
       obtain ⟨row',r1,r2,r3,r4⟩:=ht row e g6
       refine ⟨hsub,(by intro h0;cases h0),g1,(by intro h0;cases h0),fun _=>⟨z0,_,_,r1⟩,row',e,_,r1,fun j v hv=>?_⟩
       have hs2:=cells_set_rel hr hw j
       by_cases h2:o'≤j∧j < o' + x.width
       ·rw [hs2.1 h2.1 h2.2] at hv
        rw [r3 _ (by omega) (by omega),←hv];congr 1;omega
       ·rw [hs2.2 (by omega)] at hv
        rw [r4 _ (by omega)]
        exact g8 _ _ hv
      ·exact H4.elim
    | abs b' o' =>
     simp only [Option.some.injEq] at hl
     subst hl
     have hb':=abs_rest hk hr
     have hsub:Holds h' I' (g.set p x):=ih H1 hk hr hw nd2 (fun b hb hne=>ho b (by simp [hb]) hne) ht
     refine ⟨hsub,(by intro h0;cases h0),?_⟩
     split at H4
     ·rename_i y
      obtain ⟨g1,g4,gz,row,e,fr,g6,g8⟩:=H4
      have hsame:h'[y.block]? = h[y.block]?:=ho y.block (by simp [blk]) fun o e=>by
        simp only [Loc.abs.injEq] at e
        exact nd3 y.block (by simp [blk]) b' hb' e.1.symm
      refine ⟨g1,(by intro h0;cases h0),fun hh=>by rw [hsame];exact gz hh,row,e,fr,?_,?_⟩
      ·rw [hsame];exact g6
      ·rw [cells_set_abs hr hw];exact g8
     ·exact H4.elim
  case map.i own a s k =>
   simp only [okp,Bool.and_eq_true] at hk
   obtain ⟨⟨hown,hlt⟩,hk⟩:=hk
   subst hown
   simp only [rest] at hnd ho
   simp only [T.at_] at hw
   obtain ⟨H1,H3,H4⟩:=H
   obtain ⟨nd1,nd2,nd3⟩:=List.nodup_append.1 hnd
   obtain ⟨nd4,nd5,nd6⟩:=List.nodup_append.1 nd2
   split at hl
   ·rename_i hi'
    cases hr:(s.nth k).loc p with
    | none=>rw [hr] at hl;cases hl
    | some r =>
     rw [hr] at hl
     cases r with
     | rel o'=>cases hl
     | abs b' o' =>
      simp only [Option.some.injEq] at hl
      subst hl
      have hb':=abs_rest hk hr
      have hsib:∀ b∈s.restN k,h'[b]? = h[b]?:=fun b hb=>ho b (by simp [hb]) fun o e=>by
       simp only [Loc.abs.injEq] at e
       exact nd6 b hb b' hb' e.1.symm
      have hsub:Holds h' I' ((s.nth k).set p x) :=
       ih (Holds.nth H1 k) hk hr hw nd5 (fun b hb hne=>ho b (by simp [hb]) hne) ht
      refine ⟨Holds.setN H1 hi' hsub hsib hi hI,(by intro h0;cases h0),?_⟩
      split at H4
      ·rename_i r
       obtain ⟨g4,es,c,g6,g8,g9⟩:=H4
       refine ⟨(by intro h0;cases h0),es,c,?_,entries_set g8 hr hw,g9⟩
       rw [ho r (by simp [blk]) fun o e=>by
        simp only [Loc.abs.injEq] at e
        exact nd3 r (by simp [blk]) b' (by simp [hb']) e.1.symm]
       exact g6
      ·exact H4.elim
   ·cases hl
end T
end Go.Vc

/- Where other paths lead stays as it is behind a change at the end of one path. Plain facts on trees. -/
namespace Go.Vc
set_option linter.all false
def mpre:Path→Path→Bool
 | [],_=>true
 | .f a :: p,.f b :: q=>a == b && mpre p q
 | .i _ :: p,.i _ :: q=>mpre p q
 | .d :: p,.d :: q=>mpre p q
 | _,_=>false
theorem mpre_of_append:∀ (p r:Path),mpre p (p ++ r) = true
 | [],r=>by simp [mpre]
 | .f a :: p,r=>by simp [mpre,mpre_of_append p r]
 | .i a :: p,r=>by simp [mpre,mpre_of_append p r]
 | .d :: p,r=>by simp [mpre,mpre_of_append p r]
namespace T
def hdr:G→Option (Bool×Value×Nat×Nat)
 | .sl o a z s=>some (o,a,z,s.len)
 | .box o a _=>some (o,a,0,0)
 | .map o a _=>some (o,a,0,0)
 | _=>none
theorem loc_set {g:G} {q q':Path} {x:G} (hw:x.width = (g.at_ q).width) (h:∀ r,q' = q ++ r→r = []):(g.set q x).loc q' = g.loc q':=by
 induction q generalizing g q' with
 | nil =>
  have:=h q' rfl
  subst this
  rfl
 | cons st q ih =>
  cases q' with
  | nil=>rfl
  | cons st' q' =>
   have h':st' = st→∀ r,q' = q ++ r→r = []:=fun e r hr=>h r (by rw [e,hr];rfl)
   cases g <;> cases st <;> simp only [T.set] <;> simp only [T.at_] at hw
   case agg.f s i =>
    have hws:((s.nth i).set q x).width = (s.nth i).width:=width_set hw
    cases st' with
    | f j =>
     simp only [loc,len_setN,offs_setN hws]
     by_cases hj:j = i
     ·subst hj
      split
      ·rename_i hlt
       rw [nth_setN_same _ hlt,ih hw (h' rfl)]
      ·rfl
     ·rw [nth_setN_other _ hj]
    | _=>simp [loc]
   case sl.i own a z s i =>
    cases st' with
    | i j =>
     simp only [loc,len_setN]
     by_cases hj:j = i
     ·subst hj
      split
      ·rename_i hlt
       rw [nth_setN_same _ hlt,ih hw (h' rfl)]
      ·rfl
     ·rw [nth_setN_other _ hj]
    | _=>simp [loc]
   case box.d own a g =>
    cases st' with
    | d=>simp only [loc];rw [ih hw (h' rfl)]
    | _=>simp [loc]
   case map.i own a s i =>
    cases st' with
    | i j =>
     simp only [loc,len_setN]
     by_cases hj:j = i
     ·subst hj
      split
      ·rename_i hlt
       rw [nth_setN_same _ hlt,ih hw (h' rfl)]
      ·rfl
     ·rw [nth_setN_other _ hj]
    | _=>simp [loc]
theorem hdr_set {g:G} {q q':Path} {x:G} (h:∀ r,q'≠q ++ r):hdr ((g.set q x).at_ q') = hdr (g.at_ q'):=by
 induction q generalizing g q' with
 | nil=>exact absurd rfl (h q')
 | cons st q ih =>
  cases q' with
  | nil=>cases g <;> cases st <;> simp [T.set,T.at_,hdr,len_setN]
  | cons st' q' =>
   have h':st' = st→∀ r,q'≠q ++ r:=fun e r hr=>h r (by rw [e,hr];rfl)
   cases g <;> cases st <;> simp only [T.set]
   case agg.f s i =>
    cases st' with
    | f j =>
     simp only [T.at_]
     by_cases hj:j = i
     ·subst hj
      by_cases hlt:j < s.len
      ·rw [nth_setN_same _ hlt,ih (h' rfl)]
      ·rw [nth_ge (by rw [len_setN];omega),nth_ge (by omega)]
     ·rw [nth_setN_other _ hj]
    | _=>simp [T.at_]
   case sl.i own a z s i =>
    cases st' with
    | i j =>
     simp only [T.at_]
     by_cases hj:j = i
     ·subst hj
      by_cases hlt:j < s.len
      ·rw [nth_setN_same _ hlt,ih (h' rfl)]
      ·rw [nth_ge (by rw [len_setN];omega),nth_ge (by omega)]
     ·rw [nth_setN_other _ hj]
    | _=>simp [T.at_]
   case box.d own a g =>
    cases st' with
    | d=>simp only [T.at_];rw [ih (h' rfl)]
    | _=>simp [T.at_]
   case map.i own a s i =>
    cases st' with
    | i j =>
     simp only [T.at_]
     by_cases hj:j = i
     ·subst hj
      by_cases hlt:j < s.len
      ·rw [nth_setN_same _ hlt,ih (h' rfl)]
      ·rw [nth_ge (by rw [len_setN];omega),nth_ge (by omega)]
     ·rw [nth_setN_other _ hj]
    | _=>simp [T.at_]
end T
def Loc.shift:Loc→Nat→Loc
 | .rel o,n=>.rel (o + n)
 | .abs b o,n=>.abs b (o + n)
namespace T
theorem loc_append_rel {g:G} {p q:Path} {o:Nat} {l:Loc} (hq:(g.at_ p).loc q = some (.rel o)) (hl:g.loc p = some l):g.loc (p ++ q) = some (l.shift o):=by
 induction p generalizing g l with
 | nil =>
  simp only [loc,Option.some.injEq] at hl
  subst hl
  simpa [T.at_,Loc.shift] using hq
 | cons st p ih =>
  cases g <;> cases st <;> simp only [loc] at hl <;> try cases hl
  case agg.f s i =>
   simp only [T.at_] at hq
   split at hl
   ·rename_i hi
    cases hr:(s.nth i).loc p with
    | none=>rw [hr] at hl;cases hl
    | some r =>
     rw [hr] at hl
     simp only [List.cons_append,loc,if_pos hi,ih hq hr]
     cases r with
     | rel o1=>simp only [Option.some.injEq] at hl;subst hl;simp [Loc.shift];omega
     | abs b1 o1=>simp only [Option.some.injEq] at hl;subst hl;simp [Loc.shift]
   ·cases hl
  case sl.i own a z s i =>
   simp only [T.at_] at hq
   split at hl
   ·rename_i hi
    cases hr:(s.nth i).loc p with
    | none=>rw [hr] at hl;cases hl
    | some r =>
     rw [hr] at hl
     simp only [List.cons_append,loc,if_pos hi,ih hq hr]
     cases r with
     | rel o1 =>
      cases ha:headAt a with
      | none=>rw [ha] at hl;cases hl
      | some y=>rw [ha] at hl;simp only [Option.some.injEq] at hl;subst hl;simp [Loc.shift];omega
     | abs b1 o1=>simp only [Option.some.injEq] at hl;subst hl;simp [Loc.shift]
   ·cases hl
  case box.d own a g =>
   simp only [T.at_] at hq
   cases hr:g.loc p with
   | none=>rw [hr] at hl;cases hl
   | some r =>
    rw [hr] at hl
    simp only [List.cons_append,loc,ih hq hr]
    cases r with
    | rel o1 =>
     cases ha:headAt a with
     | none=>rw [ha] at hl;cases hl
     | some y=>rw [ha] at hl;simp only [Option.some.injEq] at hl;subst hl;simp [Loc.shift];omega
    | abs b1 o1=>simp only [Option.some.injEq] at hl;subst hl;simp [Loc.shift]
  case map.i own a s i =>
   simp only [T.at_] at hq
   split at hl
   ·rename_i hi
    cases hr:(s.nth i).loc p with
    | none=>rw [hr] at hl;cases hl
    | some r =>
     rw [hr] at hl
     simp only [List.cons_append,loc,if_pos hi,ih hq hr]
     cases r with
     | rel o1=>cases hl
     | abs b1 o1=>simp only [Option.some.injEq] at hl;subst hl;simp [Loc.shift]
   ·cases hl
end T
end Go.Vc

/- Abstract values, and the states of an abstract run: what they say of a frame and of memory. -/
namespace Go.Vc
set_option linter.all false
open T (hdr blk)
inductive AV where
 | bad
 | val (v:Value)
 | nils (z:Nat)
 | ptr (k:Nat) (q:Path)
 | sub (k:Nat) (q:Path) (lo n:Nat) (ex:Bool)
 | mp (k:Nat) (q:Path)
 | imm (z:Nat) (s:D) (ex:Bool)
 | iptr (d:D)
 | nil
 | cons (h t:AV)
 | agg (s:AV)
 | tup (s:AV)
 | fn (f:Nat) (s:AV)
 | cut (n:Nat)
def locF (F:List G) (k:Nat) (q:Path):Option Loc:=(F[k]?).bind fun g=>g.loc q
def hdrF (F:List G) (k:Nat) (q:Path):Option (Bool×Value×Nat×Nat):=(F[k]?).bind fun g=>hdr (g.at_ q)
def SubRel (a:Value) (z len lo n:Nat) (ex:Bool) (v:Value):Prop :=
 ∃ A c,v = .slice A n c∧lo + n≤len∧n≤c∧c≤2 ^ 63 - 1∧(ex = true→c = n) ∧
  match a with
  | .slice none _ _=>A = none∧c = 0
  | .slice (some x) _ cap=>∃ y:Addr,A = some y∧y.spot = none∧y.block = x.block∧lo + c≤cap∧y.off + c * z≤x.off + cap * z∧(0 < c→y.off = x.off + lo * z)
  | _=>False
def ImmRel (h:Array Obj) (I:Nat→Prop) (z:Nat) (s:D) (ex:Bool) (v:Value):Prop :=
 ∃ s':G,s'.erase = s∧T.Holds h I (.sl false v z s')∧(ex = true→∀ A n c,v = .slice A n c→c = n)
def IptrRel (h:Array Obj) (I:Nat→Prop) (d:D) (v:Value):Prop :=
 ∃ (g:G) (x:Addr),g.erase = d∧T.Holds h I g∧g.free = true∧v = .pointer (some x)∧x.spot = none∧I x.block∧T.RowAt h x.block x.off g.cells
def Rl (h:Array Obj) (I:Nat→Prop) (F:List G):AV→Bool→List Value→Prop
 | .bad,true,vs=>∃ v,vs = [v]
 | .bad,false,vs=>∃ v,vs = [v]∧v.oneCell' = true
 | .val v,_,vs=>vs = [v]∧v.oneCell' = true
 | .nils _,_,vs=>vs = [.slice none 0 0]
 | .ptr k q,_,vs=>∃ b o,locF F k q = some (.abs b o)∧vs = [.pointer (some ⟨b,o,none⟩)]
 | .sub k q lo n ex,_,vs=>∃ own a z len v,hdrF F k q = some (own,a,z,len)∧vs = [v]∧SubRel a z len lo n ex v
 | .mp k q,_,vs=>∃ own r z len,hdrF F k q = some (own,.map (some r),z,len)∧vs = [.map (some r)]
 | .imm z s ex,_,vs=>∃ v,vs = [v]∧ImmRel h I z s ex v
 | .iptr d,_,vs=>∃ v,vs = [v]∧IptrRel h I d v
 | .nil,_,vs=>vs = []
 | .cons a t,false,vs=>∃ v1 v2,vs = v1 ++ v2∧Rl h I F a false v1∧Rl h I F t false v2
 | .cons a t,true,vs=>∃ v vs',vs = v :: vs'∧Rl h I F a true [v]∧Rl h I F t true vs'
 | .agg s,false,vs=>Rl h I F s false vs
 | .agg s,true,vs=>∃ cs,vs = [.agg cs.toArray]∧Rl h I F s false cs
 | .tup _,false,_=>False
 | .tup s,true,vs=>∃ l,vs = [.tuple l.toArray]∧Rl h I F s true l
 | .fn f s,_,vs=>∃ l,vs = [.func (.func f) #[] l.toArray]∧Rl h I F s true l
 | .cut n,_,vs=>∃ A c,vs = [.slice A n c]
def AV.all (p s:Nat→Path→Prop):AV→Prop
 | .ptr k q=>p k q
 | .sub k q _ _ _=>s k q
 | .mp k q=>s k q
 | .cons a t=>a.all p s∧t.all p s
 | .agg a=>a.all p s
 | .tup a=>a.all p s
 | .fn _ a=>a.all p s
 | _=>True
theorem ImmRel.agree {h h':Array Obj} {I I':Nat→Prop} {z:Nat} {s:D} {ex:Bool} {v:Value} (H:ImmRel h I z s ex v) (hi:∀ b,I b→h'[b]? = h[b]?)
  (hI:∀ b,I b→I' b):ImmRel h' I' z s ex v:=by
 obtain ⟨s',h1,h2,h3⟩:=H
 exact ⟨s',h1,h2.agree (by simp [T.owned]) hi hI,h3⟩
theorem IptrRel.agree {h h':Array Obj} {I I':Nat→Prop} {d:D} {v:Value} (H:IptrRel h I d v) (hi:∀ b,I b→h'[b]? = h[b]?)
  (hI:∀ b,I b→I' b):IptrRel h' I' d v:=by
 obtain ⟨g,x,h1,h2,h3,h4,h5,h6,row,e,fr,h7,h8⟩:=H
 exact ⟨g,x,h1,h2.agree (by simp [T.owned_free h3]) hi hI,h3,h4,h5,hI _ h6,row,e,fr,by rw [hi _ h6];exact h7,h8⟩
theorem Rl.agree {h h':Array Obj} {I I':Nat→Prop} {F F':List G} {av:AV} {m:Bool} {vs:List Value} (H:Rl h I F av m vs)
  (hi:∀ b,I b→h'[b]? = h[b]?) (hI:∀ b,I b→I' b) (ha:av.all (fun k q=>locF F' k q = locF F k q) (fun k q=>hdrF F' k q = hdrF F k q)):Rl h' I' F' av m vs:=by
 induction av generalizing m vs with
 | bad=>cases m <;> exact H
 | val v=>cases m <;> exact H
 | nils z=>cases m <;> exact H
 | ptr k q =>
  simp only [AV.all] at ha
  cases m <;> (obtain ⟨b,o,h1,h2⟩:=H;exact ⟨b,o,ha.trans h1,h2⟩)
 | sub k q lo n ex =>
  simp only [AV.all] at ha
  cases m <;> (obtain ⟨own,a,z,len,v,h1,h2,h3⟩:=H;exact ⟨own,a,z,len,v,ha.trans h1,h2,h3⟩)
 | mp k q =>
  simp only [AV.all] at ha
  cases m <;> (obtain ⟨own,a,z,len,h1,h2⟩:=H;exact ⟨own,a,z,len,ha.trans h1,h2⟩)
 | imm z s ex=>cases m <;> (obtain ⟨v,h1,h2⟩:=H;exact ⟨v,h1,h2.agree hi hI⟩)
 | iptr d=>cases m <;> (obtain ⟨v,h1,h2⟩:=H;exact ⟨v,h1,h2.agree hi hI⟩)
 | nil=>cases m <;> exact H
 | cons a t iha iht =>
  cases m
  ·obtain ⟨v1,v2,h1,h2,h3⟩:=H
   exact ⟨v1,v2,h1,iha h2 ha.1,iht h3 ha.2⟩
  ·obtain ⟨v1,v2,h1,h2,h3⟩:=H
   exact ⟨v1,v2,h1,iha h2 ha.1,iht h3 ha.2⟩
 | agg s ih =>
  cases m
  ·exact ih (m:=false) H ha
  ·obtain ⟨cs,h1,h2⟩:=H
   exact ⟨cs,h1,ih h2 ha⟩
 | tup s ih =>
  cases m
  ·exact H
  ·obtain ⟨cs,h1,h2⟩:=H
   exact ⟨cs,h1,ih h2 ha⟩
 | fn f s ih =>
  cases m <;> (obtain ⟨cs,h1,h2⟩:=H;exact ⟨cs,h1,ih h2 ha⟩)
 | cut n=>cases m <;> exact H
def dead (κ:List (Nat×Path)) (k:Nat) (q:Path) (sub:Bool):Bool :=
 κ.any fun (k0,q0)=>k == k0 && (mpre q0 q && (sub || decide (q0.length < q.length)))
def AV.dies (κ:List (Nat×Path)):AV→Bool
 | .ptr k q=>dead κ k q false
 | .sub k q _ _ _=>dead κ k q true
 | .mp k q=>dead κ k q true
 | .cons a t=>a.dies κ || t.dies κ
 | .agg a=>a.dies κ
 | .tup a=>a.dies κ
 | .fn _ a=>a.dies κ
 | _=>false
def AV.rip:AV→AV
 | .sub _ _ _ n _=>.cut n
 | .ptr _ _=>.bad
 | .mp _ _=>.bad
 | .cons _ _=>.bad
 | .agg _=>.bad
 | .tup _=>.bad
 | .fn _ _=>.bad
 | _=>.bad
theorem Rl.rip {h h':Array Obj} {I I':Nat→Prop} {F F':List G} {av:AV} {m:Bool} {v:Value} (hv:m = true∨v.oneCell' = true) (H:Rl h I F av m [v]):Rl h' I' F' av.rip m [v]:=by
 have bad:Rl h' I' F' .bad m [v]:=by
  cases m
  ·exact ⟨v,rfl,hv.resolve_left (by simp)⟩
  ·exact ⟨v,rfl⟩
 cases av with
 | sub k q lo n ex =>
  have H:∃ own a z len v',hdrF F k q = some (own,a,z,len)∧[v] = [v']∧SubRel a z len lo n ex v':=by cases m <;> exact H
  obtain ⟨_,_,_,_,v',_,h2,A,c,h3,_⟩:=H
  cases h2
  subst h3
  cases m <;> exact ⟨A,c,rfl⟩
 | _=>exact bad
def AV.kill (κ:List (Nat×Path)) (a:AV):AV:=bif a.dies κ then a.rip else a
abbrev Env:=List (Nat×AV)
def look:Env→Nat→AV
 | [],_=>.bad
 | (d,a) :: e,t=>if d = t then a else look e t
def Env.kill (κ:List (Nat×Path)) (e:Env):Env:=e.map fun (d,a)=>(d,a.kill κ)
theorem look_kill (κ:List (Nat×Path)) (e:Env) (t:Nat):look (e.kill κ) t = (look e t).kill κ:=by
 induction e with
 | nil=>rfl
 | cons x e ih =>
  obtain ⟨d,a⟩:=x
  simp only [Env.kill,List.map_cons,look]
  split
  ·rfl
  ·exact ih
structure St where
 env:Env
 X:List D
 κ:List (Nat×Path)
 pl:List (Nat×Path×AV)
structure Cx where
 P:Program
 nt:Nat
 w0:World
 I0:Nat→Prop
 F0:List G
def own (F:List G):List Nat:=F.flatMap T.owned
structure Inv (c:Cx) (X:List D) (κ:List (Nat×Path)) (w:World) (I:Nat→Prop) (F:List G):Prop where
 erase:F.map T.erase = X
 holds:∀ g∈F,T.Holds w.heap I g
 nodup:(own F).Nodup
 apart:∀ b∈own F,¬ I b
 lt:∀ b∈own F,b < w.heap.size
 ilt:∀ b,I b→b < w.heap.size
 os:w.os = c.w0.os
 tape:w.tape = c.w0.tape
 output:w.output = c.w0.output
 size:c.w0.heap.size≤w.heap.size
 frame:∀ b,b < c.w0.heap.size→b∉own c.F0→w.heap[b]? = c.w0.heap[b]?
 fresh:∀ b∈own F,b < c.w0.heap.size→b∈own c.F0
 imono:∀ b,c.I0 b→I b
 inew:∀ b,I b→c.I0 b∨c.w0.heap.size≤b∨b∈own c.F0
 base:∀ k g0,c.F0[k]? = some g0→∃ g,F[k]? = some g∧g.cells = g0.cells ∧
  (∀ q,dead κ k q false = false→g.loc q = g0.loc q)∧(∀ q,dead κ k q true = false→hdr (g.at_ q) = hdr (g0.at_ q)) ∧
  (∀ q v,g0.at_ q = .junk v→dead κ k q true = false→g.at_ q = .junk v)
def EnvOk (e:Env) (a:Act) (w:World) (I:Nat→Prop) (F:List G):Prop:=∀ t,Rl w.heap I F (look e t) true [a.tmps.getD t undef]
def PlOk (pl:List (Nat×Path×AV)) (w:World) (I:Nat→Prop) (F:List G):Prop :=
 ∀ k q av,(k,q,av)∈pl→∃ g v,F[k]? = some g∧g.at_ q = .junk v∧Rl w.heap I F av false [v]
def mark (D:Nat):Deferred:={ target:=.collected D,args:=#[] }
def Dfs (n0:Nat) (ds:List Deferred) (w:World):Prop:=∃ Ds:List Nat,ds = Ds.map mark∧Ds.Nodup∧∀ D∈Ds,n0≤D∧w.heap[D]? = some (.deferred (some []))
theorem Dfs.none (n0:Nat) (w:World):Dfs n0 [] w:=⟨[],rfl,List.nodup_nil,fun _ h=>by cases h⟩
theorem Dfs.turn {n0:Nat} {ds:List Deferred} {w w':World} (H:Dfs n0 ds w) (h:∀ D,n0≤D→w.heap[D]? = some (.deferred (some []))→w'.heap[D]? = some (.deferred (some []))):Dfs n0 ds w' :=
 let ⟨Ds,h1,h2,h3⟩:=H
 ⟨Ds,h1,h2,fun D hD=>⟨(h3 D hD).1,h D (h3 D hD).1 (h3 D hD).2⟩⟩
def Rel (c:Cx) (st:St) (a:Act) (w:World):Prop :=
 Dfs c.w0.heap.size a.defers w∧a.tmps.size = c.nt∧∃ I F,Inv c st.X st.κ w I F∧EnvOk st.env a w I F∧PlOk st.pl w I F
def RelR (c:Cx) (st:St) (av:AV) (v:Value) (a:Act) (w:World):Prop :=
 Dfs c.w0.heap.size a.defers w∧a.tmps.size = c.nt∧∃ I F,Inv c st.X st.κ w I F∧EnvOk st.env a w I F∧PlOk st.pl w I F∧Rl w.heap I F av true [v]
def St.put (st:St) (d:Option Nat) (av:AV):St :=
 match d with
 | some d=>{ st with env:=(d,av) :: st.env }
 | none=>st
theorem RelR.put {c:Cx} {st:St} {av:AV} {v:Value} {a:Act} {w:World} {d:Option Nat} (h:RelR c st av v a w) (hd:∀ t,d = some t→t < c.nt) :
  Rel c (st.put d av) (a.put d v) w:=by
 obtain ⟨h1,h2,I,F,h3,h4,h5,h6⟩:=h
 cases d with
 | none=>exact ⟨h1,h2,I,F,h3,h4,h5⟩
 | some d =>
  refine ⟨h1,by simpa [Act.put] using h2,I,F,h3,fun t=>?_,h5⟩
  have hlt:=hd d rfl
  simp only [St.put,look]
  by_cases e:d = t
  ·subst e
   rw [if_pos rfl]
   have:(a.put (some d) v).tmps.getD d undef = v:=by
    simp [Act.put,h2,hlt]
   rw [this];exact h6
  ·rw [if_neg e]
   have:(a.put (some d) v).tmps.getD t undef = a.tmps.getD t undef:=by
    simp [Act.put,Array.getElem?_setIfInBounds_ne e]
   rw [this];exact h4 t
structure Stp (w w':World) (I I':Nat→Prop) (F F':List G) (κ:List (Nat×Path)) (nb:Nat):Prop where
 holds:∀ g∈F',T.Holds w'.heap I' g
 nodup:(own F').Nodup
 apart:∀ b∈own F',¬ I' b
 mine:∀ b∈own F',b∈own F∨w.heap.size≤b
 lt:∀ b∈own F',b < w'.heap.size
 ilt:∀ b,I' b→b < w'.heap.size
 heap:∀ b,b < w.heap.size→b∉own F→w'.heap[b]? = w.heap[b]?
 size:w.heap.size≤w'.heap.size
 os:w'.os = w.os
 tape:w'.tape = w.tape
 output:w'.output = w.output
 imono:∀ b,I b→I' b
 inew:∀ b,I' b→I b∨b∈own F∨w.heap.size≤b
 keep:∀ k g,F[k]? = some g→∃ g',F'[k]? = some g'∧(k < nb→g'.cells = g.cells) ∧
  (∀ q,dead κ k q false = false→g'.loc q = g.loc q)∧(∀ q,dead κ k q true = false→hdr (g'.at_ q) = hdr (g.at_ q)) ∧
  (∀ q v,g.at_ q = .junk v→dead κ k q true = false→g'.at_ q = .junk v)
theorem dead_append (κ κ':List (Nat×Path)) (k:Nat) (q:Path) (s:Bool):dead (κ ++ κ') k q s = (dead κ k q s || dead κ' k q s):=by
 simp [dead]
theorem Inv.unheld {c:Cx} {X:List D} {κ:List (Nat×Path)} {w:World} {I:Nat→Prop} {F:List G} (h:Inv c X κ w I F):∀ b,I b→b∉own F:=fun b hb ho=>h.apart b ho hb
theorem Stp.iheap {c:Cx} {X:List D} {κ κ':List (Nat×Path)} {w w':World} {I I':Nat→Prop} {F F':List G} {nb:Nat} (h:Inv c X κ w I F)
  (s:Stp w w' I I' F F' κ' nb):∀ b,I b→w'.heap[b]? = w.heap[b]?:=fun b hb=>s.heap b (h.ilt b hb) (h.unheld b hb)
theorem Inv.step {c:Cx} {X:List D} {κ κ':List (Nat×Path)} {w w':World} {I I':Nat→Prop} {F F':List G} (h:Inv c X κ w I F)
  (s:Stp w w' I I' F F' κ' c.F0.length):Inv c (F'.map T.erase) (κ' ++ κ) w' I' F' where
 erase:=rfl
 holds:=s.holds
 nodup:=s.nodup
 apart:=s.apart
 lt:=s.lt
 ilt:=s.ilt
 os:=s.os.trans h.os
 tape:=s.tape.trans h.tape
 output:=s.output.trans h.output
 size:=Nat.le_trans h.size s.size
 frame:=fun b hb hn=>by
  rw [s.heap b (Nat.lt_of_lt_of_le hb h.size) (fun hf=>hn (h.fresh b hf hb)),h.frame b hb hn]
 fresh:=fun b hb hlt=>by
  rcases s.mine b hb with h1 | h1
  ·exact h.fresh b h1 hlt
  ·have:=h.size;omega
 imono:=fun b hb=>s.imono b (h.imono b hb)
 inew:=fun b hb=>by
  rcases s.inew b hb with h1 | h1 | h1
  ·exact h.inew b h1
  ·rcases Nat.lt_or_ge b c.w0.heap.size with h2 | h2
   ·exact .inr (.inr (h.fresh b h1 h2))
   ·exact .inr (.inl h2)
  ·exact .inr (.inl (Nat.le_trans h.size h1))
 base:=fun k g0 hg0=>by
  obtain ⟨g,h1,h2,h3,h4,h4'⟩:=h.base k g0 hg0
  have hk:k < c.F0.length:=(List.getElem?_eq_some_iff.1 hg0).1
  obtain ⟨g',h5,h6,h7,h8,h9⟩:=s.keep k g h1
  refine ⟨g',h5,(h6 hk).trans h2,fun q hq=>?_,fun q hq=>?_,fun q v hj hq=>?_⟩
  ·rw [dead_append,Bool.or_eq_false_iff] at hq
   rw [h7 q hq.1,h3 q hq.2]
  ·rw [dead_append,Bool.or_eq_false_iff] at hq
   rw [h8 q hq.1,h4 q hq.2]
  ·rw [dead_append,Bool.or_eq_false_iff] at hq
   exact h9 q v (h4' q v hj hq.2) hq.1
theorem AV.all_of_alive {F F':List G} {κ:List (Nat×Path)} {av:AV} (hd:av.dies κ = false)
  (hl:∀ k q,dead κ k q false = false→locF F k q≠none→locF F' k q = locF F k q) (hh:∀ k q,dead κ k q true = false→hdrF F k q≠none→hdrF F' k q = hdrF F k q)
  {h:Array Obj} {I:Nat→Prop} {m:Bool} {vs:List Value} (H:Rl h I F av m vs) :
  av.all (fun k q=>locF F' k q = locF F k q) (fun k q=>hdrF F' k q = hdrF F k q):=by
 induction av generalizing m vs with
 | ptr k q=>cases m <;> (obtain ⟨b,o,h1,_⟩:=H;exact hl k q hd (by rw [h1];simp))
 | sub k q lo n ex=>cases m <;> (obtain ⟨own,a,z,len,v,h1,_⟩:=H;exact hh k q hd (by rw [h1];simp))
 | mp k q=>cases m <;> (obtain ⟨own,a,z,len,h1,_⟩:=H;exact hh k q hd (by rw [h1];simp))
 | cons a t iha iht =>
  simp only [AV.dies,Bool.or_eq_false_iff] at hd
  cases m
  ·obtain ⟨v1,v2,_,h2,h3⟩:=H
   exact ⟨iha hd.1 h2,iht hd.2 h3⟩
  ·obtain ⟨v1,v2,_,h2,h3⟩:=H
   exact ⟨iha hd.1 h2,iht hd.2 h3⟩
 | agg s ih =>
  cases m
  ·exact ih hd (m:=false) H
  ·obtain ⟨cs,_,h2⟩:=H;exact ih hd h2
 | tup s ih =>
  cases m
  ·exact H.elim
  ·obtain ⟨cs,_,h2⟩:=H;exact ih hd h2
 | fn f s ih=>cases m <;> (obtain ⟨cs,_,h2⟩:=H;exact ih hd h2)
 | _=>trivial
theorem Stp.locF {w w':World} {I I':Nat→Prop} {F F':List G} {κ:List (Nat×Path)} {nb:Nat} (s:Stp w w' I I' F F' κ nb) :
  ∀ k q,dead κ k q false = false→locF F k q≠none→locF F' k q = locF F k q:=by
 intro k q hd hn
 unfold Vc.locF at *
 cases hg:F[k]? with
 | none=>rw [hg] at hn;simp at hn
 | some g =>
  obtain ⟨g',h1,_,h2,_⟩:=s.keep k g hg
  simp [h1,h2 q hd]
theorem Stp.hdrF {w w':World} {I I':Nat→Prop} {F F':List G} {κ:List (Nat×Path)} {nb:Nat} (s:Stp w w' I I' F F' κ nb) :
  ∀ k q,dead κ k q true = false→hdrF F k q≠none→hdrF F' k q = hdrF F k q:=by
 intro k q hd hn
 unfold Vc.hdrF at *
 cases hg:F[k]? with
 | none=>rw [hg] at hn;simp at hn
 | some g =>
  obtain ⟨g',h1,_,_,h2,_⟩:=s.keep k g hg
  simp [h1,h2 q hd]
theorem Rl.step {c:Cx} {X:List D} {κ κ':List (Nat×Path)} {w w':World} {I I':Nat→Prop} {F F':List G} {nb:Nat} (hi:Inv c X κ w I F)
  (s:Stp w w' I I' F F' κ' nb) {av:AV} {m:Bool} {vs:List Value} (hd:av.dies κ' = false) (H:Rl w.heap I F av m vs):Rl w'.heap I' F' av m vs :=
 H.agree (s.iheap hi) s.imono (AV.all_of_alive hd s.locF s.hdrF H)
theorem Rl.kill {h h0:Array Obj} {I I0:Nat→Prop} {F F0:List G} {av:AV} {v:Value} {κ:List (Nat×Path)} (H0:Rl h0 I0 F0 av true [v]) (H:av.dies κ = false→Rl h I F av true [v]) :
  Rl h I F (av.kill κ) true [v]:=by
 unfold AV.kill
 cases hd:av.dies κ with
 | true=>exact H0.rip (.inl rfl)
 | false=>exact H hd
theorem EnvOk.step {c:Cx} {X:List D} {κ κ':List (Nat×Path)} {w w':World} {I I':Nat→Prop} {F F':List G} {nb:Nat} {e:Env} {a:Act} (hi:Inv c X κ w I F)
  (s:Stp w w' I I' F F' κ' nb) (H:EnvOk e a w I F):EnvOk (e.kill κ') a w' I' F':=fun t=>by
 rw [look_kill]
 exact Rl.kill (H t) fun hd=>Rl.step hi s hd (H t)
def plKill (κ:List (Nat×Path)) (pl:List (Nat×Path×AV)):List (Nat×Path×AV):=pl.filter fun e=>!dead κ e.1 e.2.1 true && !e.2.2.dies κ
theorem PlOk.step {c:Cx} {X:List D} {κ κ':List (Nat×Path)} {w w':World} {I I':Nat→Prop} {F F':List G} {nb:Nat} {pl:List (Nat×Path×AV)} (hi:Inv c X κ w I F)
  (s:Stp w w' I I' F F' κ' nb) (H:PlOk pl w I F):PlOk (plKill κ' pl) w' I' F':=fun k q av hm=>by
 simp only [plKill,List.mem_filter,Bool.and_eq_true,Bool.not_eq_true'] at hm
 obtain ⟨h1,h2,h3⟩:=hm
 obtain ⟨g,v,h4,h5,h6⟩:=H k q av h1
 obtain ⟨g',h7,_,_,_,h8⟩:=s.keep k g h4
 exact ⟨g',v,h7,h8 q v h5 h2,Rl.step hi s h3 h6⟩
def St.step (st:St) (κ':List (Nat×Path)) (X':List D):St:=⟨st.env.kill κ',X',κ' ++ st.κ,plKill κ' st.pl⟩
theorem own_no {h:Array Obj} {I:Nat→Prop} {D:Nat} {o:Obj} (hD:h[D]? = some o) (ho1:∀ r e f,o≠.cells r e f) (ho2:∀ e c,o≠.map e c):∀ (g:G),T.Holds h I g→D∉g.owned:=by
 intro g
 induction g with
 | cons x t ihx iht =>
  intro H hm
  simp only [T.owned,List.mem_append] at hm
  exact hm.elim (ihx H.1) (iht H.2)
 | agg s ih=>exact fun H hm=>ih H hm
 | sl own a z s ih =>
  cases own with
  | false=>intro _ hm;cases hm
  | true =>
   intro H hm
   simp only [T.owned,List.mem_append] at hm
   rcases hm with hm | hm
   ·obtain ⟨_,_,_,h4⟩:=H
    split at h4
    ·cases hm
    ·cases hm
    ·rename_i x n c
     simp only [T.blk,List.mem_singleton] at hm
     obtain ⟨_,_,_,_,_,row,e,fr,h5,_⟩:=h4
     rw [hm,h5] at hD;cases hD;first | exact ho1 _ _ _ rfl | exact ho2 _ _ rfl
    ·exact h4.elim
   ·exact ih H.1 hm
 | box own a g ih =>
  cases own with
  | false=>intro _ hm;cases hm
  | true =>
   intro H hm
   simp only [T.owned,List.mem_append] at hm
   rcases hm with hm | hm
   ·obtain ⟨_,_,h4⟩:=H
    split at h4
    ·rename_i x
     simp only [T.blk,List.mem_singleton] at hm
     obtain ⟨_,_,h5,_⟩:=h4
     obtain ⟨_,row,e,h5⟩:=h5 rfl
     rw [hm,h5] at hD;cases hD;first | exact ho1 _ _ _ rfl | exact ho2 _ _ rfl
    ·exact h4.elim
   ·exact ih H.1 hm
 | map own a s ih =>
  cases own with
  | false=>intro _ hm;cases hm
  | true =>
   intro H hm
   simp only [T.owned,List.mem_append] at hm
   rcases hm with hm | hm
   ·obtain ⟨_,_,h4⟩:=H
    split at h4
    ·rename_i r
     simp only [T.blk,List.mem_singleton] at hm
     obtain ⟨_,es,c,h5,_⟩:=h4
     rw [hm,h5] at hD;cases hD;first | exact ho1 _ _ _ rfl | exact ho2 _ _ rfl
    ·exact h4.elim
   ·exact ih H.1 hm
 | _=>intro _ hm;cases hm
theorem own_no_mark {h:Array Obj} {I:Nat→Prop} {D:Nat} {l:Option (List Deferred)} (hD:h[D]? = some (.deferred l)) (g:G) (H:T.Holds h I g):D∉g.owned :=
 own_no hD (fun _ _ _=>by simp) (fun _ _=>by simp) g H
theorem Dfs.step {c:Cx} {X:List D} {κ κ':List (Nat×Path)} {w w':World} {I I':Nat→Prop} {F F':List G} {nb n0:Nat} {ds:List Deferred} (H:Dfs n0 ds w) (hi:Inv c X κ w I F)
  (s:Stp w w' I I' F F' κ' nb):Dfs n0 ds w':=H.turn fun D _ h2=>by
 have hlt:D < w.heap.size:=(Array.getElem?_eq_some_iff.1 h2).1
 have hno:D∉own F:=fun hm=>by
  simp only [own,List.mem_flatMap] at hm
  obtain ⟨g,hg,hm⟩:=hm
  exact own_no_mark h2 g (hi.holds g hg) hm
 rw [s.heap D hlt hno];exact h2
theorem Dfs.same {n0:Nat} {ds:List Deferred} {w w':World} (H:Dfs n0 ds w) (h:w'.heap = w.heap):Dfs n0 ds w':=H.turn fun D _ h2=>by rw [h];exact h2
theorem Rel.of_step {c:Cx} {st:St} {a:Act} {w w':World} {I I':Nat→Prop} {F F':List G} {κ':List (Nat×Path)} (hd:Dfs c.w0.heap.size a.defers w) (hs:a.tmps.size = c.nt)
  (hi:Inv c st.X st.κ w I F) (he:EnvOk st.env a w I F) (hp:PlOk st.pl w I F) (s:Stp w w' I I' F F' κ' c.F0.length) {av:AV} {v:Value}
  (hv:Rl w'.heap I' F' av true [v]):RelR c (st.step κ' (F'.map T.erase)) av v a w' :=
 ⟨hd.step hi s,hs,I',F',hi.step s,he.step hi s,hp.step hi s,hv⟩
theorem AV.dies_nil (av:AV):av.dies [] = false:=by
 induction av with
 | cons a t ha ht=>simp [AV.dies,ha,ht]
 | agg s ih=>simpa [AV.dies] using ih
 | tup s ih=>simpa [AV.dies] using ih
 | fn f s ih=>simpa [AV.dies] using ih
 | _=>simp [AV.dies,dead]
theorem Rel.quiet {c:Cx} {st:St} {a:Act} {w w':World} (h:Rel c st a w) (hh:w'.heap = w.heap) (ho:w'.os = w.os) (ht:w'.tape = w.tape) (hp:w'.output = w.output) :
  Rel c st a w':=by
 obtain ⟨h1,h2,I,F,hi,he,hpl⟩:=h
 refine ⟨h1.same hh,h2,I,F,⟨hi.erase,by rw [hh];exact hi.holds,hi.nodup,hi.apart,by rw [hh];exact hi.lt,by rw [hh];exact hi.ilt,ho.trans hi.os,ht.trans hi.tape,hp.trans hi.output,
  by rw [hh];exact hi.size,by rw [hh];exact hi.frame,hi.fresh,hi.imono,hi.inew,hi.base⟩,fun t=>by rw [hh];exact he t,fun k q av hm=>by rw [hh];exact hpl k q av hm⟩
end Go.Vc

/- A value laid down as a tree of its own: what it owns moves with it, what it borrows is remembered beside it. -/
namespace Go.Vc
set_option linter.all false
open T (hdr blk)
namespace T
def drop {α:Type}:T α→Nat→T α
 | s,0=>s
 | .cons _ t,k + 1=>t.drop k
 | _,_ + 1=>.nil
def take {α:Type}:T α→Nat→T α
 | .cons h t,k + 1=>.cons h (t.take k)
 | _,_=>.nil
def mid {α:Type} (s:T α) (lo n:Nat):T α:=(s.drop lo).take n
section
variable {α:Type}
theorem erase_drop (s:T α) (k:Nat):(s.drop k).erase = s.erase.drop k:=by
 induction k generalizing s with
 | zero=>simp [drop]
 | succ k ih=>cases s <;> simp [drop,erase,ih]
theorem erase_take (s:T α) (k:Nat):(s.take k).erase = s.erase.take k:=by
 induction k generalizing s with
 | zero=>cases s <;> simp [take,erase]
 | succ k ih=>cases s <;> simp [take,erase,ih]
theorem erase_mid (s:T α) (lo n:Nat):(s.mid lo n).erase = s.erase.mid lo n:=by simp [mid,erase_take,erase_drop]
theorem uni_drop {z:Nat} {s:T α} (h:s.uni z) (k:Nat):(s.drop k).uni z:=by
 induction k generalizing s with
 | zero=>simpa [drop] using h
 | succ k ih=>cases s <;> simp only [drop] <;> first | trivial | exact ih h.2
theorem uni_take {z:Nat} {s:T α} (h:s.uni z) (k:Nat):(s.take k).uni z:=by
 induction k generalizing s with
 | zero=>cases s <;> simp [take,uni]
 | succ k ih=>cases s <;> simp only [take] <;> first | trivial | exact ⟨h.1,ih h.2⟩
theorem uni_mid {z:Nat} {s:T α} (h:s.uni z) (lo n:Nat):(s.mid lo n).uni z:=uni_take (uni_drop h lo) n
theorem len_drop (s:T α) (k:Nat):(s.drop k).len = s.len - k:=by
 induction k generalizing s with
 | zero=>simp [drop]
 | succ k ih=>cases s <;> simp [drop,len,ih]
theorem len_take (s:T α) (k:Nat):(s.take k).len = min k s.len:=by
 induction k generalizing s with
 | zero=>cases s <;> simp [take,len]
 | succ k ih=>cases s <;> simp [take,len,ih]
theorem len_mid {s:T α} {lo n:Nat} (h:lo + n≤s.len):(s.mid lo n).len = n:=by simp only [mid,len_take,len_drop];omega
theorem free_drop {s:T α} (h:s.free = true) (k:Nat):(s.drop k).free = true:=by
 induction k generalizing s with
 | zero=>simpa [drop] using h
 | succ k ih =>
  cases s <;> simp only [drop] <;> first | rfl | (simp only [free,Bool.and_eq_true] at h;exact ih h.2)
theorem free_take {s:T α} (h:s.free = true) (k:Nat):(s.take k).free = true:=by
 induction k generalizing s with
 | zero=>cases s <;> simp [take,free]
 | succ k ih =>
  cases s <;> simp only [take] <;> first | rfl | (simp only [free,Bool.and_eq_true] at h ⊢;exact ⟨h.1,ih h.2⟩)
theorem free_mid {s:T α} (h:s.free = true) (lo n:Nat):(s.mid lo n).free = true:=free_take (free_drop h lo) n
end
theorem owned_drop (s:G) (k:Nat):(s.drop k).owned.Sublist s.owned:=by
 induction k generalizing s with
 | zero=>simp [drop]
 | succ k ih =>
  cases s <;> simp only [drop] <;> first | exact List.nil_sublist _ | exact (ih _).trans (by simp [owned])
theorem owned_take (s:G) (k:Nat):(s.take k).owned.Sublist s.owned:=by
 induction k generalizing s with
 | zero=>cases s <;> simp [take,owned]
 | succ k ih =>
  cases s <;> simp only [take] <;> first | exact List.nil_sublist _ | (simp only [owned];exact List.Sublist.append (List.Sublist.refl _) (ih _))
theorem owned_mid (s:G) (lo n:Nat):(s.mid lo n).owned.Sublist s.owned:=(owned_take _ n).trans (owned_drop s lo)
theorem Holds.drop {h:Array Obj} {I:Nat→Prop} {s:G} (H:Holds h I s) (k:Nat):Holds h I (s.drop k):=by
 induction k generalizing s with
 | zero=>simpa [T.drop] using H
 | succ k ih=>cases s <;> simp only [T.drop] <;> first | trivial | exact ih H.2
theorem Holds.take {h:Array Obj} {I:Nat→Prop} {s:G} (H:Holds h I s) (k:Nat):Holds h I (s.take k):=by
 induction k generalizing s with
 | zero=>cases s <;> simp [T.take,Holds]
 | succ k ih=>cases s <;> simp only [T.take] <;> first | trivial | exact ⟨H.1,ih H.2⟩
theorem Holds.mid {h:Array Obj} {I:Nat→Prop} {s:G} (H:Holds h I s) (lo n:Nat):Holds h I (s.mid lo n):=(H.drop lo).take n
theorem cells_drop {z:Nat} {s:G} (hu:s.uni z) {k j:Nat} (hk:k≤s.len):(s.drop k).cells[j]? = s.cells[k * z + j]?:=by
 induction k generalizing s with
 | zero=>simp [drop]
 | succ k ih =>
  cases s with
  | cons a t =>
   simp only [drop,cells]
   rw [ih hu.2 (by simpa [len] using hk),List.getElem?_append_right (by rw [cells_length,hu.1,Nat.succ_mul];omega),cells_length,hu.1]
   congr 1;rw [Nat.succ_mul];omega
  | _=>simp [len] at hk
theorem cells_take {z:Nat} {s:G} (hu:s.uni z) {k j:Nat} {v:Value} (hv:(s.take k).cells[j]? = some v):s.cells[j]? = some v:=by
 induction k generalizing s j with
 | zero=>cases s <;> simp [take,cells] at hv
 | succ k ih =>
  cases s with
  | cons a t =>
   simp only [take,cells] at hv ⊢
   by_cases hj:j < a.cells.length
   ·rw [List.getElem?_append_left hj] at hv ⊢;exact hv
   ·rw [List.getElem?_append_right (by omega)] at hv ⊢;exact ih hu.2 hv
  | _=>simp [take,cells] at hv
theorem cells_mid {z:Nat} {s:G} (hu:s.uni z) {lo n j:Nat} (hk:lo≤s.len) {v:Value} (hv:(s.mid lo n).cells[j]? = some v):s.cells[lo * z + j]? = some v:=by
 rw [←cells_drop hu hk];exact cells_take (uni_drop hu lo) hv
theorem Holds.stretch {h:Array Obj} {I:Nat→Prop} {own:Bool} {a:Value} {z lo n:Nat} {ex:Bool} {s:G} {v:Value} (H:Holds h I (.sl own a z s)) (hs:SubRel a z s.len lo n ex v) :
  Holds h I (.sl own v z (s.mid lo n))∧(s.mid lo n).len = n:=by
 obtain ⟨H1,H2,H3,H4⟩:=H
 obtain ⟨A,c,rfl,h1,h2,h2',h3,h4⟩:=hs
 have hl:=len_mid h1
 refine ⟨⟨H1.mid lo n,uni_mid H2 lo n,fun hf=>free_mid (H3 hf) lo n,?_⟩,hl⟩
 split at H4
 ·obtain ⟨rfl,rfl⟩:=h4
  exact ⟨by omega,rfl,by omega⟩
 ·obtain ⟨y,rfl,h5,h6,h7,h8,h9⟩:=h4
  obtain rfl:c = 0:=by omega
  exact ⟨by omega,fun _=>h5,by omega⟩
 ·rename_i x n' cap
  obtain ⟨y,rfl,h5,h6,h7,h8,h9⟩:=h4
  obtain ⟨g1,g2,g3,g4,g5,row,e,fr,g6,gf,g7,g8⟩:=H4
  rcases c with _ | c
  ·exact ⟨by omega,fun _=>h5,by omega⟩
  refine ⟨h5,hl.symm,h2,h2',fun hf=>by rw [h6];exact g5 hf,row,e,fr,by rw [h6];exact g6,gf,Nat.le_trans h8 g7,fun j u hu=>?_⟩
  have hj:j < (s.mid lo n).cells.length:=by
   rcases Nat.lt_or_ge j (s.mid lo n).cells.length with h' | h'
   ·exact h'
   ·rw [List.getElem?_eq_none h'] at hu;cases hu
  rw [cells_length,uni_width (uni_mid H2 lo n),hl] at hj
  have:=g8 _ _ (cells_mid H2 (by omega) hu)
  rw [h9 (by omega),←this];congr 1;omega
 ·exact H4.elim
theorem blk_some (y:Addr) (n c b:Nat):(blk (.slice (some y) n c)).count b≤([y.block]:List Nat).count b:=by
 rcases c with _ | c <;> simp [blk]
theorem mem_blk {y:Addr} {n c b:Nat} (h:b∈blk (.slice (some y) n c)):b = y.block∧0 < c:=by
 rcases c with _ | c
 ·simp [blk] at h
 ·exact ⟨by simpa [blk] using h,by omega⟩
theorem blk_sub {x y:Addr} {n n' c cap:Nat} (h:y.block = x.block) (hc:c≤cap) (b:Nat):(blk (.slice (some y) n c)).count b≤(blk (.slice (some x) n' cap)).count b:=by
 rcases c with _ | c
 ·simp [blk]
 ·rcases cap with _ | cap
  ·omega
  ·simp [blk,h]
end T
structure Tk where
 d:D
 X:List D
 κ:List (Nat×Path)
 pl:List (Path×AV)
def bump:Path×AV→Path×AV
 | (.f i :: p,a)=>(.f (i + 1) :: p,a)
 | x=>x
def AV.isSeq:AV→Bool
 | .nil=>true
 | .cons _ _=>true
 | _=>false
def layZ (X:List D) (k:Nat) (q:Path):Option Nat :=
 match (X.getD k .nil).at_ q with
 | .sl _ () z _=>some z
 | _=>none
def emptySub (X:List D) (k:Nat) (q:Path) (n:Nat) (ex:Bool):Option Nat :=
 match ex,n with
 | true,0=>layZ X k q
 | _,_=>none
def AV.lay (nb:Nat):AV→List D→Tk
 | .val v,X=>⟨.val v,X,[],[]⟩
 | .nils z,X=>⟨.sl true () z .nil,X,[],[]⟩
 | .imm z s _,X=>⟨.sl false () z s,X,[],[]⟩
 | .iptr d,X=>⟨.box false () d,X,[],[]⟩
 | .sub k q lo n ex,X =>
  match emptySub X k q n ex with
  | some z=>⟨.sl true () z .nil,X,[],[]⟩
  | none=>match q,X[k]? with
   | [],some (.sl true () z s)=>bif Nat.ble nb k then ⟨.sl true () z (s.mid lo n),X.set k (.junk ()),[(k,[])],[]⟩ else ⟨.junk (),X,[],[([],.sub k [] lo n ex)]⟩
   | q,_=>⟨.junk (),X,[],[([],.sub k q lo n ex)]⟩
 | .ptr k q,X =>
  match q,X[k]? with
  | [.d],some (.box true () g)=>bif Nat.ble nb k then ⟨.box true () g,X.set k (.junk ()),[(k,[])],[]⟩ else ⟨.junk (),X,[],[([],.ptr k [.d])]⟩
  | q,_=>⟨.junk (),X,[],[([],.ptr k q)]⟩
 | .mp k q,X =>
  match q,X[k]? with
  | [],some (.map true () s)=>bif Nat.ble nb k then ⟨.map true () s,X.set k (.junk ()),[(k,[])],[]⟩ else ⟨.junk (),X,[],[([],.mp k [])]⟩
  | q,_=>⟨.junk (),X,[],[([],.mp k q)]⟩
 | .nil,X=>⟨.nil,X,[],[]⟩
 | .cons a t,X =>
  let r:=a.lay nb X
  let r':=t.lay nb r.X
  ⟨.cons r.d r'.d,r'.X,r.κ ++ r'.κ,(bif a.isSeq then [] else r.pl.map fun x=>(.f 0 :: x.1,x.2)) ++ (bif t.isSeq then r'.pl.map bump else [])⟩
 | .agg s,X =>
  let r:=s.lay nb X
  ⟨.agg r.d,r.X,r.κ,bif s.isSeq then r.pl else []⟩
 | .bad,X=>⟨.junk (),X,[],[]⟩
 | .tup _,X=>⟨.junk (),X,[],[]⟩
 | .fn _ _,X=>⟨.junk (),X,[],[]⟩
 | .cut _,X=>⟨.junk (),X,[],[]⟩
def isSeq {α:Type}:T α→Bool
 | .nil=>true
 | .cons _ _=>true
 | _=>false
def plAt (x:G) (q:Path):G:=bif isSeq x then (T.agg x).at_ q else x.at_ q
def KeepR (nb:Nat) (F F1:List G) (κ:List (Nat×Path)):Prop :=
 (∀ e∈κ,e.2 = [])∧∀ k g,F[k]? = some g→∃ g',F1[k]? = some g'∧(g' = g∨(∃ a,g' = .junk a)∧dead κ k [] true = true∧nb≤k)
structure Laid (h:Array Obj) (I:Nat→Prop) (nb:Nat) (κ0:List (Nat×Path)) (F F1:List G) (x:G) (cs:List Value) (r:Tk):Prop where
 erase:F1.map T.erase = r.X
 xerase:x.erase = r.d
 cells:x.cells = cs
 xholds:T.Holds h I x
 holds:∀ g∈F1,T.Holds h I g
 count:∀ b,x.owned.count b + (own F1).count b≤(own F).count b
 keep:KeepR nb F F1 r.κ
 pl:∀ q av,(q,av)∈r.pl→av.dies (κ0 ++ r.κ) = false→∃ v,plAt x q = .junk v∧Rl h I F1 av false [v]
theorem dead_roots {κ:List (Nat×Path)} (hr:∀ e∈κ,e.2 = []) (k:Nat) (q:Path):dead κ k q true = dead κ k [] true:=by
 induction κ with
 | nil=>rfl
 | cons e κ ih =>
  have h1:=ih fun e' he=>hr e' (List.mem_cons_of_mem _ he)
  obtain ⟨k0,q0⟩:=e
  obtain rfl:q0 = []:=hr _ List.mem_cons_self
  unfold dead at *
  simp only [List.any_cons,mpre,Bool.true_or,Bool.and_true] at h1 ⊢
  rw [h1]
theorem dead_roots' {κ:List (Nat×Path)} (hr:∀ e∈κ,e.2 = []) {k:Nat} {q:Path} (hq:q≠[]):dead κ k q false = dead κ k [] true:=by
 induction κ with
 | nil=>rfl
 | cons e κ ih =>
  have h1:=ih fun e' he=>hr e' (List.mem_cons_of_mem _ he)
  obtain ⟨k0,q0⟩:=e
  obtain rfl:q0 = []:=hr _ List.mem_cons_self
  have hl:0 < q.length:=List.length_pos_iff.2 hq
  unfold dead at *
  simp only [List.any_cons,mpre,h1,List.length_nil,hl,decide_true,Bool.or_true,Bool.true_or,Bool.and_true]
section
variable {h:Array Obj} {I:Nat→Prop} {nb:Nat} {F0 F F1:List G} {x:G} {cs:List Value} {r:Tk} {κ0 κ κ':List (Nat×Path)}
theorem KeepR.refl (nb:Nat) (F:List G):KeepR nb F F []:=⟨(fun e he=>by cases he),fun k g hg=>⟨g,hg,.inl rfl⟩⟩
theorem KeepR.trans (h1:KeepR nb F0 F κ) (h2:KeepR nb F F1 κ'):KeepR nb F0 F1 (κ ++ κ'):=by
 refine ⟨fun e he=>(List.mem_append.1 he).elim (h1.1 e) (h2.1 e),fun k g hg=>?_⟩
 obtain ⟨g1,hg1,e1⟩:=h1.2 k g hg
 obtain ⟨g2,hg2,e2⟩:=h2.2 k g1 hg1
 refine ⟨g2,hg2,?_⟩
 rcases e2 with rfl | ⟨e2,e3,e4⟩
 ·rcases e1 with rfl | ⟨e1,e3,e4⟩
  ·exact .inl rfl
  ·exact .inr ⟨e1,by rw [dead_append,e3];rfl,e4⟩
 ·exact .inr ⟨e2,by rw [dead_append,e3];simp,e4⟩
theorem KeepR.locF (hk:KeepR nb F F1 κ):∀ k q,dead κ k q false = false→locF F k q≠none→locF F1 k q = locF F k q:=by
 intro k q hd hn
 unfold Vc.locF at *
 cases hg:F[k]? with
 | none=>rw [hg] at hn;simp at hn
 | some g =>
  obtain ⟨g',h1,h3⟩:=hk.2 k g hg
  simp only [h1,Option.bind_some]
  cases q with
  | nil=>simp [T.loc]
  | cons st q =>
   rcases h3 with rfl | ⟨_,h3,_⟩
   ·rfl
   ·rw [←dead_roots' hk.1 (q:=st :: q) (by simp),hd] at h3;cases h3
theorem KeepR.hdrF (hk:KeepR nb F F1 κ):∀ k q,dead κ k q true = false→hdrF F k q≠none→hdrF F1 k q = hdrF F k q:=by
 intro k q hd hn
 unfold Vc.hdrF at *
 cases hg:F[k]? with
 | none=>rw [hg] at hn;simp at hn
 | some g =>
  obtain ⟨g',h1,h3⟩:=hk.2 k g hg
  simp only [h1,Option.bind_some]
  rcases h3 with rfl | ⟨_,h3,_⟩
  ·rfl
  ·rw [←dead_roots hk.1 k q,hd] at h3;cases h3
theorem KeepR.rl (hk:KeepR nb F F1 κ) {av:AV} {m:Bool} {vs:List Value} (hd:av.dies κ = false) (H:Rl h I F av m vs):Rl h I F1 av m vs :=
 H.agree (fun _ _=>rfl) (fun _ hb=>hb) (AV.all_of_alive hd hk.locF hk.hdrF H)
theorem AV.dies_append (κ κ':List (Nat×Path)) (av:AV):av.dies (κ ++ κ') = (av.dies κ || av.dies κ'):=by
 induction av with
 | cons a t ha ht=>simp only [AV.dies,ha,ht];cases a.dies κ <;> cases a.dies κ' <;> cases t.dies κ <;> cases t.dies κ' <;> rfl
 | agg s ih=>simpa [AV.dies] using ih
 | tup s ih=>simpa [AV.dies] using ih
 | fn f s ih=>simpa [AV.dies] using ih
 | _=>simp [AV.dies,dead_append]
theorem Laid.stay (hF:∀ g∈F,T.Holds h I g) {d:D} {pl:List (Path×AV)} (hxe:x.erase = d) (hc:x.cells = cs) (hx:T.Holds h I x) (ho:x.owned = [])
  (hpl:∀ q av,(q,av)∈pl→av.dies κ0 = false→∃ v,plAt x q = .junk v∧Rl h I F av false [v]):Laid h I nb κ0 F F x cs ⟨d,F.map T.erase,[],pl⟩ where
 erase:=rfl
 xerase:=hxe
 cells:=hc
 xholds:=hx
 holds:=hF
 count:=fun b=>by simp [ho]
 keep:=KeepR.refl nb F
 pl:=fun q av hm hd=>hpl q av hm (by simpa using hd)
theorem own_set {k:Nat} {g:G} (hk:F[k]? = some g) (y:G) (b:Nat):(own (F.set k y)).count b + g.owned.count b = (own F).count b + y.owned.count b:=by
 induction F generalizing k with
 | nil=>simp at hk
 | cons f F ih =>
  cases k with
  | zero =>
   simp only [List.getElem?_cons_zero,Option.some.injEq] at hk
   subst hk
   simp only [own,List.set_cons_zero,List.flatMap_cons,List.count_append];omega
  | succ k =>
   have:=ih (k:=k) (by simpa using hk)
   simp only [own,List.set_cons_succ,List.flatMap_cons,List.count_append] at *
   omega
theorem Laid.move (hF:∀ g∈F,T.Holds h I g) {k:Nat} {g:G} {a:Value} (hk:F[k]? = some g) (hb:nb≤k) (ha:a.oneCell' = true) {d:D} (hxe:x.erase = d) (hc:x.cells = cs)
  (hx:T.Holds h I x) (ho:∀ b,x.owned.count b≤g.owned.count b):Laid h I nb κ0 F (F.set k (.junk a)) x cs ⟨d,(F.map T.erase).set k (.junk ()),[(k,[])],[]⟩ where
 erase:=by rw [List.map_set];rfl
 xerase:=hxe
 cells:=hc
 xholds:=hx
 holds:=fun g' hg'=>by
  rcases List.mem_or_eq_of_mem_set hg' with h1 | h1
  ·exact hF _ h1
  ·subst h1;exact ha
 count:=fun b=>by
  have:=own_set hk (.junk a) b
  have:=ho b
  simp only [T.owned,List.count_nil] at *
  omega
 keep:=by
  refine ⟨fun e he=>by simp only [List.mem_singleton] at he;subst he;rfl,fun j g' hg'=>?_⟩
  by_cases hj:k = j
  ·subst hj
   have hlt:k < F.length:=(List.getElem?_eq_some_iff.1 hg').1
   exact ⟨.junk a,by simp [hlt],.inr ⟨⟨a,rfl⟩,by simp [dead,mpre],hb⟩⟩
  ·exact ⟨g',by rw [List.getElem?_set_ne hj];exact hg',.inl rfl⟩
 pl:=fun q av hm _=>by cases hm
end
theorem Rl_sub_one {a:Value} {z len lo n:Nat} {ex:Bool} {v:Value} (h:SubRel a z len lo n ex v):v.oneCell' = true:=by
 obtain ⟨A,c,rfl,_⟩:=h;rfl
theorem lay_ok {h:Array Obj} {I:Nat→Prop} {nb:Nat} {F0:List G} {av:AV}:∀ {F:List G} {κ0:List (Nat×Path)} {cs:List Value},(∀ g∈F,T.Holds h I g)→KeepR nb F0 F κ0 →
  Rl h I F0 av false cs→∃ F1 x,Laid h I nb κ0 F F1 x cs (av.lay nb (F.map T.erase))∧isSeq x = av.isSeq:=by
 induction av with
 | bad =>
  rintro F κ0 cs hF hK ⟨v,rfl,h1⟩
  exact ⟨F,.junk v,Laid.stay hF rfl rfl h1 rfl (fun q av hm _=>by cases hm),rfl⟩
 | cut n =>
  rintro F κ0 cs hF hK ⟨A,c,rfl⟩
  exact ⟨F,.junk (.slice A n c),Laid.stay hF rfl rfl rfl rfl (fun q av hm _=>by cases hm),rfl⟩
 | val v =>
  rintro F κ0 cs hF hK ⟨rfl,h1⟩
  exact ⟨F,.val v,Laid.stay hF rfl rfl h1 rfl (fun q av hm _=>by cases hm),rfl⟩
 | nils z =>
  rintro F κ0 cs hF hK rfl
  exact ⟨F,.sl true (.slice none 0 0) z .nil,Laid.stay hF rfl rfl ⟨trivial,trivial,fun _=>rfl,rfl,rfl,rfl⟩ rfl (fun q av hm _=>by cases hm),rfl⟩
 | imm z s ex =>
  rintro F κ0 cs hF hK ⟨v,rfl,s',h1,h2,_⟩
  subst h1
  exact ⟨F,.sl false v z s',Laid.stay hF rfl rfl h2 rfl (fun q av hm _=>by cases hm),rfl⟩
 | iptr d =>
  rintro F κ0 cs hF hK ⟨v,rfl,g,x,h1,h2,h3,rfl,h5,h6,h7⟩
  subst h1
  exact ⟨F,.box false (.pointer (some x)) g,Laid.stay hF rfl rfl ⟨h2,fun _=>h3,h5,fun _=>h6,(fun h=>by cases h),h7⟩ rfl (fun q av hm _=>by cases hm),rfl⟩
 | nil =>
  rintro F κ0 cs hF hK rfl
  exact ⟨F,.nil,Laid.stay hF rfl rfl trivial rfl (fun q av hm _=>by cases hm),rfl⟩
 | tup s ih =>
  intro F κ0 cs hF hK H
  exact H.elim
 | fn f s ih =>
  rintro F κ0 cs hF hK ⟨l,rfl,h1⟩
  exact ⟨F,.junk (.func (.func f) #[] l.toArray),Laid.stay hF rfl rfl rfl rfl (fun q av hm _=>by cases hm),rfl⟩
 | agg s ih =>
  intro F κ0 cs hF hK H
  obtain ⟨F1,x,L,hs⟩:=ih (cs:=cs) hF hK H
  refine ⟨F1,.agg x,⟨L.erase,by simp [T.erase,L.xerase,AV.lay],L.cells,L.xholds,L.holds,L.count,L.keep,fun q av hm hd=>?_⟩,rfl⟩
  simp only [AV.lay] at hm
  cases hq:s.isSeq with
  | false=>rw [hq] at hm;cases hm
  | true =>
   rw [hq] at hm
   obtain ⟨v,h1,h2⟩:=L.pl q av hm hd
   refine ⟨v,?_,h2⟩
   have hx:isSeq x = true:=hs.trans hq
   simp only [plAt,hx,cond_true] at h1
   simpa [plAt,isSeq] using h1
 | cons a t iha iht =>
  rintro F κ0 cs hF hK ⟨v1,v2,rfl,H1,H2⟩
  obtain ⟨F1,x,L,hs⟩:=iha hF hK H1
  obtain ⟨F2,y,M,hs'⟩:=iht (F:=F1) (κ0:=κ0 ++ (a.lay nb (F.map T.erase)).κ) L.holds (hK.trans L.keep) H2
  rw [L.erase] at M
  refine ⟨F2,.cons x y,⟨M.erase,by simp [T.erase,L.xerase,M.xerase,AV.lay],by simp [T.cells,L.cells,M.cells],⟨L.xholds,M.xholds⟩,M.holds,fun b=>?_,
   L.keep.trans M.keep,fun q av hm hd=>?_⟩,rfl⟩
  ·have h1:=L.count b
   have h2:=M.count b
   simp only [T.owned,List.count_append];omega
  ·simp only [AV.lay,List.mem_append] at hm
   rw [AV.dies_append,Bool.or_eq_false_iff] at hd
   obtain ⟨hd0,hd1⟩:=hd
   simp only [AV.lay] at hd1
   rw [AV.dies_append,Bool.or_eq_false_iff] at hd1
   rcases hm with hm | hm
   ·cases ha:a.isSeq with
    | true=>rw [ha] at hm;cases hm
    | false =>
     rw [ha] at hm
     simp only [cond_false,List.mem_map] at hm
     obtain ⟨⟨q',av'⟩,hm,he⟩:=hm
     simp only [Prod.mk.injEq] at he
     obtain ⟨rfl,rfl⟩:=he
     obtain ⟨v,h1,h2⟩:=L.pl q' av' hm (by rw [AV.dies_append,hd0,hd1.1];rfl)
     have hx:isSeq x = false:=hs.trans ha
     refine ⟨v,?_,M.keep.rl hd1.2 h2⟩
     simp only [plAt,hx,cond_false] at h1
     simpa [plAt,isSeq,T.at_,T.nth] using h1
   ·cases ha:t.isSeq with
    | false=>rw [ha] at hm;cases hm
    | true =>
     rw [ha] at hm
     simp only [cond_true,List.mem_map] at hm
     obtain ⟨⟨q',av'⟩,hm,he⟩:=hm
     obtain ⟨v,h1,h2⟩:=M.pl q' av' hm (by
      have hav:av' = av:=by
       unfold bump at he
       split at he <;> simp_all
      rw [hav,AV.dies_append,AV.dies_append,hd0,hd1.1,hd1.2];rfl)
     have hy:isSeq y = true:=hs'.trans ha
     simp only [plAt,hy,cond_true] at h1
     refine ⟨v,?_,?_⟩
     ·simp only [plAt,isSeq,cond_true]
      cases q' with
      | nil=>simp [T.at_] at h1
      | cons st q' =>
       cases st with
       | f i =>
        simp only [bump,Prod.mk.injEq] at he
        obtain ⟨rfl,_⟩:=he
        simpa [T.at_,T.nth] using h1
       | _=>simp [T.at_] at h1
     ·have hav:av' = av:=by
       unfold bump at he
       split at he <;> simp_all
      rw [←hav];exact h2
 | sub k q lo n ex =>
  rintro F κ0 cs hF hK ⟨own,a,z,len,v,h1,rfl,h2⟩
  have hone:v.oneCell' = true:=Rl_sub_one h2
  have stay:∃ F1 x,Laid h I nb κ0 F F1 x [v] ⟨.junk (),F.map T.erase,[],[([],.sub k q lo n ex)]⟩∧isSeq x = false :=
   ⟨F,.junk v,Laid.stay hF rfl rfl hone rfl (fun q' av' hm hd'=>by
    simp only [List.mem_singleton,Prod.mk.injEq] at hm
    obtain ⟨rfl,rfl⟩:=hm
    exact ⟨v,rfl,hK.rl (av:=.sub k q lo n ex) hd' ⟨own,a,z,len,v,h1,rfl,h2⟩⟩),rfl⟩
  simp only [AV.lay,AV.isSeq]
  split
  ·rename_i z0 hz
   unfold emptySub at hz
   split at hz
   ·obtain ⟨A,c,rfl,q1,q2,q3,q4,q5⟩:=h2
    have hc:c = 0:=q4 rfl
    subst hc
    refine ⟨F,.sl true (.slice A 0 0) z0 .nil,Laid.stay hF (by simp [T.erase]) rfl ?_ ?_ (fun _ _ hm=>by cases hm),rfl⟩
    ·cases A with
     | none=>exact ⟨trivial,trivial,(by intro h;cases h),rfl,rfl,rfl⟩
     | some x =>
      refine ⟨trivial,trivial,(by intro h;cases h),rfl,?_,rfl⟩
      split at q5
      ·cases q5.1
      ·obtain ⟨y,hy,hs,_⟩:=q5
       cases hy;exact fun _=>hs
      ·exact q5.elim
    ·cases A <;> rfl
   ·cases hz
  ·split
   ·rename_i z' s' hk _
    unfold hdrF at h1
    cases hg0:F0[k]? with
    | none=>rw [hg0] at h1;simp at h1
    | some g0 =>
     rw [hg0] at h1
     simp only [T.at_,Option.bind_some] at h1
     obtain ⟨g,hg,hgg⟩:=hK.2 k g0 hg0
     rw [List.getElem?_map,hg] at hk
     have hgg:g = g0:=by
      rcases hgg with h' | ⟨⟨a',rfl⟩,_⟩
      ·exact h'
      ·simp [T.erase] at hk
     subst hgg
     simp only [Option.map_some,Option.some.injEq] at hk
     cases hn:Nat.ble nb k with
     | false=>simpa using stay
     | true =>
      cases g with
      | sl o a0 z0 s0 =>
       simp only [T.erase,T.sl.injEq] at hk
       simp only [hdr,Option.some.injEq,Prod.mk.injEq] at h1
       obtain ⟨rfl,_,rfl,rfl⟩:=hk
       obtain ⟨rfl,rfl,rfl,rfl⟩:=h1
       have hh:=hF _ (List.mem_of_getElem? hg)
       obtain ⟨hs,hl⟩:=T.Holds.stretch hh h2
       refine ⟨F.set k (.junk v),.sl true v z0 (s0.mid lo n),?_,rfl⟩
       refine Laid.move hF hg (Nat.le_of_ble_eq_true hn) hone (by simp [T.erase,T.erase_mid]) rfl hs (fun b=>?_)
       have hsub:=(T.owned_mid s0 lo n).count_le b
       simp only [T.owned,List.count_append]
       obtain ⟨A,c,rfl,_,_,_,_,h4⟩:=h2
       split at h4
       ·obtain ⟨rfl,_⟩:=h4;simp only [blk,List.count_nil];omega
       ·rename_i x n' cap;obtain ⟨y,rfl,_,h6,h7,_⟩:=h4;have:=T.blk_sub (n:=n) (n':=n') h6 (Nat.le_trans (Nat.le_add_left c lo) h7) b;omega
       ·exact h4.elim
      | _=>simp [T.erase] at hk
   ·exact stay
 | ptr k q =>
  rintro F κ0 cs hF hK ⟨b,o,h1,rfl⟩
  have stay:∃ F1 x,Laid h I nb κ0 F F1 x [.pointer (some ⟨b,o,none⟩)] ⟨.junk (),F.map T.erase,[],[([],.ptr k q)]⟩∧isSeq x = false :=
   ⟨F,.junk (.pointer (some ⟨b,o,none⟩)),Laid.stay hF rfl rfl rfl rfl (fun q' av' hm hd'=>by
    simp only [List.mem_singleton,Prod.mk.injEq] at hm
    obtain ⟨rfl,rfl⟩:=hm
    exact ⟨_,rfl,hK.rl (av:=.ptr k q) hd' ⟨b,o,h1,rfl⟩⟩),rfl⟩
  simp only [AV.lay,AV.isSeq]
  split
  ·rename_i g' hk
   unfold locF at h1
   cases hg0:F0[k]? with
   | none=>rw [hg0] at h1;simp at h1
   | some g0 =>
    rw [hg0] at h1
    simp only [Option.bind_some] at h1
    obtain ⟨g,hg,hgg⟩:=hK.2 k g0 hg0
    rw [List.getElem?_map,hg] at hk
    have hgg:g = g0:=by
     rcases hgg with h' | ⟨⟨a',rfl⟩,_⟩
     ·exact h'
     ·simp [T.erase] at hk
    subst hgg
    simp only [Option.map_some,Option.some.injEq] at hk
    cases hn:Nat.ble nb k with
    | false=>simpa using stay
    | true =>
     cases g with
     | box o' a0 g0 =>
      simp only [T.erase,T.box.injEq] at hk
      obtain ⟨rfl,_,rfl⟩:=hk
      have hh:=hF _ (List.mem_of_getElem? hg)
      have ha:a0 = .pointer (some ⟨b,o,none⟩):=by
       have h4:=hh.2.2
       simp only [T.loc] at h1
       split at h4
       ·rename_i x
        simp only [T.headAt,Option.some.injEq,Loc.abs.injEq,Nat.add_zero] at h1
        obtain ⟨rfl,rfl⟩:=h1
        obtain ⟨hsp,_⟩:=h4
        obtain ⟨xb,xo,xs⟩:=x
        simp only at hsp
        subst hsp;rfl
       ·exact h4.elim
      subst ha
      exact ⟨F.set k (.junk (.pointer (some ⟨b,o,none⟩))),.box true (.pointer (some ⟨b,o,none⟩)) g0,Laid.move hF hg (Nat.le_of_ble_eq_true hn) rfl rfl rfl hh (fun _=>Nat.le_refl _),rfl⟩
     | _=>simp [T.erase] at hk
  ·exact stay
 | mp k q =>
  rintro F κ0 cs hF hK ⟨own,r,z,len,h1,rfl⟩
  have stay:∃ F1 x,Laid h I nb κ0 F F1 x [.map (some r)] ⟨.junk (),F.map T.erase,[],[([],.mp k q)]⟩∧isSeq x = false :=
   ⟨F,.junk (.map (some r)),Laid.stay hF rfl rfl rfl rfl (fun q' av' hm hd'=>by
    simp only [List.mem_singleton,Prod.mk.injEq] at hm
    obtain ⟨rfl,rfl⟩:=hm
    exact ⟨_,rfl,hK.rl (av:=.mp k q) hd' ⟨own,r,z,len,h1,rfl⟩⟩),rfl⟩
  simp only [AV.lay,AV.isSeq]
  split
  ·rename_i s' hk
   unfold hdrF at h1
   cases hg0:F0[k]? with
   | none=>rw [hg0] at h1;simp at h1
   | some g0 =>
    rw [hg0] at h1
    simp only [T.at_,Option.bind_some] at h1
    obtain ⟨g,hg,hgg⟩:=hK.2 k g0 hg0
    rw [List.getElem?_map,hg] at hk
    have hgg:g = g0:=by
     rcases hgg with h' | ⟨⟨a',rfl⟩,_⟩
     ·exact h'
     ·simp [T.erase] at hk
    subst hgg
    simp only [Option.map_some,Option.some.injEq] at hk
    cases hn:Nat.ble nb k with
    | false=>simpa using stay
    | true =>
     cases g with
     | map o a0 s0 =>
      simp only [T.erase,T.map.injEq] at hk
      simp only [hdr,Option.some.injEq,Prod.mk.injEq] at h1
      obtain ⟨rfl,_,rfl⟩:=hk
      obtain ⟨rfl,rfl,rfl,rfl⟩:=h1
      have hh:=hF _ (List.mem_of_getElem? hg)
      exact ⟨F.set k (.junk (.map (some r))),.map true (.map (some r)) s0,Laid.move hF hg (Nat.le_of_ble_eq_true hn) rfl rfl rfl hh (fun _=>Nat.le_refl _),rfl⟩
     | _=>simp [T.erase] at hk
  ·exact stay
end Go.Vc

/- The steps that make memory or write it, on states. -/
namespace Go.Vc
set_option linter.all false
open T (hdr blk)
theorem nodup_of_count {l:List Nat} (h:∀ b,l.count b≤1):l.Nodup:=List.nodup_iff_count.2 h
theorem count_le_one {l:List Nat} (h:l.Nodup) (b:Nat):l.count b≤1:=List.nodup_iff_count.1 h b
theorem mem_of_count {l:List Nat} {b:Nat}:b∈l↔0 < l.count b:=List.count_pos_iff.symm
theorem own_append (F F':List G):own (F ++ F') = own F ++ own F':=by simp [own]
theorem own_one (g:G):own [g] = g.owned:=by simp [own]
theorem heap_alloc {w:World} {o:Obj} {b:Nat} (h:b < w.heap.size):(w.alloc o).heap[b]? = w.heap[b]?:=heap_alloc_old w o b h
section
variable {c:Cx} {X:List D} {κ κ0:List (Nat×Path)} {w w':World} {I:Nat→Prop} {nb:Nat} {F F1:List G} {x:G} {cs:List Value} {r:Tk}
theorem Laid.mem1 (L:Laid w.heap I nb κ0 F F1 x cs r) {b:Nat} (hb:b∈own F1):b∈own F:=by
 have:=L.count b
 rw [mem_of_count] at *
 omega
theorem Laid.memx (L:Laid w.heap I nb κ0 F F1 x cs r) {b:Nat} (hb:b∈x.owned):b∈own F:=by
 have:=L.count b
 rw [mem_of_count] at *
 omega
theorem Stp.alloc (hi:Inv c X κ w I F) (L:Laid w.heap I c.F0.length κ0 F F1 x cs r) {o:Obj} {g':G} (hg:T.Holds (w.alloc o).heap I g')
  (hc:∀ b,b≠w.heap.size→g'.owned.count b≤x.owned.count b) (hc1:g'.owned.count w.heap.size≤1):Stp w (w.alloc o) I I F (F1 ++ [g']) r.κ c.F0.length where
 holds:=fun g hm=>by
  rcases List.mem_append.1 hm with h | h
  ·exact (L.holds g h).agree (fun b hb=>heap_alloc (hi.lt b (L.mem1 (List.mem_flatMap.2 ⟨g,h,hb⟩)))) (fun b hb=>heap_alloc (hi.ilt b hb)) fun _ h=>h
  ·simp only [List.mem_singleton] at h;subst h;exact hg
 nodup:=nodup_of_count fun b=>by
  rw [own_append,own_one,List.count_append]
  have h1:=L.count b
  have h3:=count_le_one hi.nodup b
  by_cases hb:b = w.heap.size
  ·subst hb
   have h4:(own F).count w.heap.size = 0:=List.count_eq_zero.2 fun hm=>by have:=hi.lt _ hm;omega
   omega
  ·have h2:=hc b hb
   omega
 apart:=fun b hb hI=>by
  rw [own_append,own_one,List.mem_append] at hb
  rcases hb with hb | hb
  ·exact hi.apart b (L.mem1 hb) hI
  ·rw [mem_of_count] at hb
   by_cases e:b = w.heap.size
   ·subst e;have:=hi.ilt _ hI;omega
   ·have h2:=hc b e
    exact hi.apart b (L.memx (mem_of_count.2 (by omega))) hI
 mine:=fun b hb=>by
  rw [own_append,own_one,List.mem_append] at hb
  rcases hb with hb | hb
  ·exact .inl (L.mem1 hb)
  ·rw [mem_of_count] at hb
   by_cases e:b = w.heap.size
   ·exact .inr (by omega)
   ·have h2:=hc b e
    exact .inl (L.memx (mem_of_count.2 (by omega)))
 lt:=fun b hb=>by
  rw [own_append,own_one,List.mem_append] at hb
  rw [World.size_alloc]
  rcases hb with hb | hb
  ·have:=hi.lt b (L.mem1 hb);omega
  ·rw [mem_of_count] at hb
   by_cases e:b = w.heap.size
   ·omega
   ·have h2:=hc b e
    have:=hi.lt b (L.memx (mem_of_count.2 (by omega)));omega
 ilt:=fun b hb=>by rw [World.size_alloc];have:=hi.ilt b hb;omega
 heap:=fun b hb _=>heap_alloc hb
 size:=by rw [World.size_alloc];omega
 os:=rfl
 tape:=rfl
 output:=rfl
 imono:=fun _ h=>h
 inew:=fun _ h=>.inl h
 keep:=fun k g hg=>by
  obtain ⟨g1,h1,h2⟩:=L.keep.2 k g hg
  refine ⟨g1,by rw [List.getElem?_append_left (List.getElem?_eq_some_iff.1 h1).1];exact h1,?_⟩
  rcases h2 with rfl | ⟨⟨a,rfl⟩,h3,h4⟩
  ·exact ⟨fun _=>rfl,fun _ _=>rfl,fun _ _=>rfl,fun _ _ h _=>h⟩
  ·refine ⟨fun h=>by omega,fun q hq=>?_,fun q hq=>?_,fun q v _ hq=>?_⟩
   ·cases q with
    | nil=>simp [T.loc]
    | cons st q=>rw [dead_roots' L.keep.1 (by simp),h3] at hq;cases hq
   ·rw [dead_roots L.keep.1,h3] at hq;cases hq
   ·rw [dead_roots L.keep.1,h3] at hq;cases hq
end
def St.moved (st:St) (r:Tk):St:={ st with env:=st.env.kill r.κ,X:=r.X,pl:=plKill r.κ st.pl }
def St.push (st:St) (r:Tk) (φ:Path→Path) (d:D):St :=
 { st with X:=st.X ++ [d],pl:=st.pl ++ (r.pl.filter fun e=>!e.2.dies r.κ).map fun e=>(st.X.length,φ e.1,e.2) }
theorem Inv.rekill {c:Cx} {X:List D} {κ κ':List (Nat×Path)} {w:World} {I:Nat→Prop} {F:List G} (h:Inv c X κ w I F)
  (hk:∀ k q s,k < c.F0.length→dead κ' k q s = false→dead κ k q s = false):Inv c X κ' w I F :=
 { h with
  base:=fun k g0 hg0=>by
   obtain ⟨g,h1,h2,h3,h4,h5⟩:=h.base k g0 hg0
   have hlt:k < c.F0.length:=(List.getElem?_eq_some_iff.1 hg0).1
   exact ⟨g,h1,h2,fun q hq=>h3 q (hk k q false hlt hq),fun q hq=>h4 q (hk k q true hlt hq),fun q v hj hq=>h5 q v hj (hk k q true hlt hq)⟩ }
theorem Inv.unkill {c:Cx} {X:List D} {κ κ':List (Nat×Path)} {w:World} {I:Nat→Prop} {F:List G} (h:Inv c X (κ' ++ κ) w I F)
  (hk:∀ k q s,k < c.F0.length→dead κ' k q s = false):Inv c X κ w I F :=
 h.rekill fun k q s hlt hd=>by rw [dead_append,hk k q s hlt,hd];rfl
theorem lay_bases {nb:Nat} {av:AV}:∀ {X:List D} {k:Nat} {q:Path} {s:Bool},k < nb→dead (av.lay nb X).κ k q s = false:=by
 have one:∀ {nb j k:Nat} {q:Path} {s:Bool},k < nb→Nat.ble nb j = true→dead [(j,[])] k q s = false:=by
  intro nb j k q s h1 h2
  have:=Nat.le_of_ble_eq_true h2
  have:(k == j) = false:=by simp;omega
  simp [dead,this]
 induction av with
 | cons a t ha ht=>intro X k q s hk;simp only [AV.lay,dead_append,ha hk,ht hk];rfl
 | agg s ih=>intro X k q s' hk;exact ih hk
 | sub k' q' lo n ex =>
  intro X k q s hk
  simp only [AV.lay]
  split
  ·rfl
  ·split
   ·cases hb:Nat.ble nb k' with
    | true=>exact one hk hb
    | false=>rfl
   ·rfl
 | ptr k' q' =>
  intro X k q s hk
  simp only [AV.lay]
  split
  ·cases hb:Nat.ble nb k' with
   | true=>exact one hk hb
   | false=>rfl
  ·rfl
 | mp k' q' =>
  intro X k q s hk
  simp only [AV.lay]
  split
  ·cases hb:Nat.ble nb k' with
   | true=>exact one hk hb
   | false=>rfl
  ·rfl
 | _=>intro X k q s hk;rfl
def AV.isCell:AV→Bool
 | .bad | .nil | .cons _ _ | .tup _=>false
 | _=>true
theorem Rl.toCells {h:Array Obj} {I:Nat→Prop} {F:List G} {av:AV} {v:Value} (hc:av.isCell = true) (H:Rl h I F av true [v]):Rl h I F av false v.cells.toList:=by
 cases av with
 | bad=>cases hc
 | nil=>cases hc
 | cons a t=>cases hc
 | tup s=>cases hc
 | val v' =>
  obtain ⟨h1,h2⟩:=H
  cases h1
  cases v <;> first | exact ⟨rfl,h2⟩ | cases h2
 | nils z=>cases H;exact rfl
 | cut n=>obtain ⟨A,c,h⟩:=H;cases h;exact ⟨A,c,rfl⟩
 | ptr k q=>obtain ⟨b,o,h1,h2⟩:=H;cases h2;exact ⟨b,o,h1,rfl⟩
 | sub k q lo n ex =>
  obtain ⟨own,a,z,len,v',h1,h2,h3⟩:=H
  cases h2
  obtain ⟨A,c,rfl,_⟩:=id h3
  exact ⟨own,a,z,len,_,h1,rfl,h3⟩
 | mp k q=>obtain ⟨own,a,z,len,h1,h2⟩:=H;cases h2;exact ⟨own,a,z,len,h1,rfl⟩
 | imm z s ex =>
  obtain ⟨v',h1,s',h2,h3,h4⟩:=H
  cases h1
  have:v.cells.toList = [v]:=by
   have h5:=h3.2.2.2
   split at h5 <;> first | rfl | exact h5.elim
  rw [this]
  exact ⟨v,rfl,s',h2,h3,h4⟩
 | iptr d =>
  obtain ⟨v',h1,g,x,h2,h3,h4,h5,h6⟩:=H
  cases h1
  subst h5
  exact ⟨_,rfl,g,x,h2,h3,h4,rfl,h6⟩
 | agg s =>
  obtain ⟨cs,h1,h2⟩:=H
  cases h1
  simpa [Value.cells,Rl] using h2
 | fn f s=>obtain ⟨l,h1,h2⟩:=H;cases h1;exact ⟨l,rfl,h2⟩
theorem Rel.allocLay {c:Cx} {st:St} {a:Act} {w:World} {I:Nat→Prop} {F F1:List G} {x:G} {cs:List Value} {r:Tk} (hd:Dfs c.w0.heap.size a.defers w) (hs:a.tmps.size = c.nt)
  (hi:Inv c st.X st.κ w I F) (he:EnvOk st.env a w I F) (hp:PlOk st.pl w I F) (L:Laid w.heap I c.F0.length [] F F1 x cs r)
  (hb:∀ k q s,k < c.F0.length→dead r.κ k q s = false) {o:Obj} {g':G} (hg:T.Holds (w.alloc o).heap I g')
  (hc:∀ b,b≠w.heap.size→g'.owned.count b≤x.owned.count b) (hc1:g'.owned.count w.heap.size≤1) {φ:Path→Path} (hpl:∀ q v,plAt x q = .junk v→g'.at_ (φ q) = .junk v)
  {d:D} (hge:g'.erase = d) :
  F1.length = r.X.length∧Inv c (r.X ++ [d]) st.κ (w.alloc o) I (F1 ++ [g'])∧EnvOk (st.env.kill r.κ) a (w.alloc o) I (F1 ++ [g']) ∧
   PlOk (((st.moved r).push r φ d).pl) (w.alloc o) I (F1 ++ [g'])∧∀ {av m vs},av.dies r.κ = false→Rl w.heap I F av m vs→Rl (w.alloc o).heap I (F1 ++ [g']) av m vs:=by
 have S:=Stp.alloc (κ:=st.κ) hi L hg hc hc1
 have hlen:F1.length = r.X.length:=by rw [←L.erase];simp
 have hinv:=(hi.step S).unkill hb
 rw [List.map_append,L.erase,List.map_cons,List.map_nil,hge] at hinv
 refine ⟨hlen,hinv,he.step hi S,?_,fun hdd H=>Rl.step hi S hdd H⟩
 intro k q av hm
 simp only [St.push,St.moved,List.mem_append,List.mem_map,List.mem_filter] at hm
 rcases hm with hm | ⟨⟨q',av'⟩,⟨h1,h2⟩,h3⟩
 ·exact hp.step hi S k q av hm
 ·simp only [Prod.mk.injEq] at h3
  obtain ⟨rfl,rfl,rfl⟩:=h3
  obtain ⟨v,h4,h5⟩:=L.pl q' av' h1 (by simpa using h2)
  refine ⟨g',v,by rw [←hlen];simp,hpl q' v h4,?_⟩
  refine h5.agree (fun b hb=>heap_alloc (hi.ilt b hb)) (fun _ h=>h) ?_
  refine AV.all_of_alive (κ:=[]) (AV.dies_nil _) (fun k q _ hn=>?_) (fun k q _ hn=>?_) h5
  ·unfold locF at *
   cases hk:F1[k]? with
   | none=>rw [hk] at hn;simp at hn
   | some g=>rw [List.getElem?_append_left (List.getElem?_eq_some_iff.1 hk).1,hk]
  ·unfold hdrF at *
   cases hk:F1[k]? with
   | none=>rw [hk] at hn;simp at hn
   | some g=>rw [List.getElem?_append_left (List.getElem?_eq_some_iff.1 hk).1,hk]
theorem Dfs.alloc {n0:Nat} {ds:List Deferred} {w:World} (H:Dfs n0 ds w) (o:Obj):Dfs n0 ds (w.alloc o):=H.turn fun D _ h2=>by
 rw [heap_alloc (Array.getElem?_eq_some_iff.1 h2).1];exact h2
theorem Rel.boxC {c:Cx} {st:St} {av:AV} {cs:Array Value} {a:Act} {w:World} {I:Nat→Prop} {F:List G} (h1:Dfs c.w0.heap.size a.defers w) (h2:a.tmps.size = c.nt) (hi:Inv c st.X st.κ w I F)
  (he:EnvOk st.env a w I F) (hp:PlOk st.pl w I F) (hv:Rl w.heap I F av false cs.toList) (hc:av.isCell = true) (E:TypeId) :
  RelR c ((st.moved (av.lay c.F0.length st.X)).push (av.lay c.F0.length st.X) (.d :: ·) (.box true () (av.lay c.F0.length st.X).d)) (.ptr (av.lay c.F0.length st.X).X.length [.d])
   (.pointer (some ⟨w.heap.size,0,none⟩)) a (w.alloc (.cells cs E)):=by
 obtain ⟨F1,x,L,hs⟩:=lay_ok (nb:=c.F0.length) (F0:=F) (κ0:=[]) hi.holds (KeepR.refl _ F) hv
 rw [hi.erase] at L
 have hb:=fun k q s=>@lay_bases c.F0.length av st.X k q s
 generalize av.lay c.F0.length st.X = r at *
 have hx:isSeq x = false:=by rw [hs];cases av <;> simp_all [AV.isCell,AV.isSeq]
 have hnew:(w.alloc (.cells cs E)).heap[w.heap.size]? = some (.cells cs E (0,0)):=heap_alloc_new w _
 have hno:x.owned.count w.heap.size = 0:=List.count_eq_zero.2 fun hm=>by have:=hi.lt _ (L.memx hm);omega
 obtain ⟨g1,g2,g3,g4,g5⟩:=Rel.allocLay (o:=.cells cs E) (g':=.box true (.pointer (some ⟨w.heap.size,0,none⟩)) x) (φ:=(.d :: ·)) h1 h2 hi he hp L hb
  ⟨L.xholds.agree (fun b hb=>heap_alloc (hi.lt b (L.memx hb))) (fun b hb=>heap_alloc (hi.ilt b hb)) (fun _ h=>h),(by intro h;cases h),rfl,(by intro h;cases h),fun _=>⟨rfl,_,_,hnew⟩,
   cs,E,_,hnew,fun j u hu=>by rw [L.cells] at hu;simpa using hu⟩
  (fun b hb=>by simp [T.owned,blk,List.count_cons,Ne.symm hb]) (by simp [T.owned,blk,hno]) (fun q v' hq=>by simpa [plAt,hx,T.at_] using hq) (by rw [T.erase,L.xerase])
 exact ⟨h1.alloc _,h2,I,_,g2,g3,g4,w.heap.size,0,by simp [locF,←g1,T.loc,T.headAt],rfl⟩
theorem Rel.box {c:Cx} {st:St} {av:AV} {v:Value} {a:Act} {w:World} (h:RelR c st av v a w) (hc:av.isCell = true) (E:TypeId) :
  RelR c ((st.moved (av.lay c.F0.length st.X)).push (av.lay c.F0.length st.X) (.d :: ·) (.box true () (av.lay c.F0.length st.X).d)) (.ptr (av.lay c.F0.length st.X).X.length [.d])
   (.pointer (some ⟨w.heap.size,0,none⟩)) a (w.alloc (.cells v.cells E)):=by
 obtain ⟨h1,h2,I,F,hi,he,hp,hv⟩:=h
 exact Rel.boxC h1 h2 hi he hp (hv.toCells hc) hc E
def toI:Path→Path
 | .f i :: q=>.i i :: q
 | q=>q
theorem Rel.rowC {c:Cx} {st:St} {av:AV} {cs:Array Value} {a:Act} {w:World} {I:Nat→Prop} {F:List G} (h1:Dfs c.w0.heap.size a.defers w) (h2:a.tmps.size = c.nt) (hi:Inv c st.X st.κ w I F)
  (he:EnvOk st.env a w I F) (hp:PlOk st.pl w I F) (hv:Rl w.heap I F av false cs.toList) (hc:av.isSeq = true) {z n:Nat} (hu:∀ x:G,x.erase = (av.lay c.F0.length st.X).d→x.uni z∧x.len = n) (hn:n≤2 ^ 63 - 1) (E:TypeId) :
  RelR c ((st.moved (av.lay c.F0.length st.X)).push (av.lay c.F0.length st.X) toI (.sl true () z (av.lay c.F0.length st.X).d)) (.sub (av.lay c.F0.length st.X).X.length [] 0 n true)
   (.slice (some ⟨w.heap.size,0,none⟩) n n) a (w.alloc (.cells cs E)):=by
 obtain ⟨F1,x,L,hs⟩:=lay_ok (nb:=c.F0.length) (F0:=F) (κ0:=[]) hi.holds (KeepR.refl _ F) hv
 rw [hi.erase] at L
 have hb:=fun k q s=>@lay_bases c.F0.length av st.X k q s
 generalize av.lay c.F0.length st.X = r at *
 have hx:isSeq x = true:=by rw [hs];exact hc
 obtain ⟨hu1,hu2⟩:=hu x L.xerase
 have hnew:(w.alloc (.cells cs E)).heap[w.heap.size]? = some (.cells cs E (0,0)):=heap_alloc_new w _
 have hno:x.owned.count w.heap.size = 0:=List.count_eq_zero.2 fun hm=>by have:=hi.lt _ (L.memx hm);omega
 have hsz:cs.size = n * z:=by
  rw [←Array.length_toList,←L.cells,T.cells_length,T.uni_width hu1,hu2]
 obtain ⟨g1,g2,g3,g4,g5⟩:=Rel.allocLay (o:=.cells cs E) (g':=.sl true (.slice (some ⟨w.heap.size,0,none⟩) n n) z x) (φ:=toI) h1 h2 hi he hp L hb
  ⟨L.xholds.agree (fun b hb=>heap_alloc (hi.lt b (L.memx hb))) (fun b hb=>heap_alloc (hi.ilt b hb)) (fun _ h=>h),hu1,(by intro h;cases h),by
   rcases n with _ | n
   ·exact ⟨rfl,fun _=>rfl,hu2⟩
   ·exact ⟨rfl,hu2.symm,Nat.le_refl _,hn,(by intro h;cases h),cs,E,_,hnew,fun _=>rfl,(by simp [hsz]),fun j u hu=>by rw [L.cells] at hu;simpa using hu⟩⟩
  (fun b hb=>by
   have h1:=T.blk_some ⟨w.heap.size,0,none⟩ n n b
   have h2:([w.heap.size]:List Nat).count b = 0:=List.count_eq_zero.2 (by simpa using hb)
   simp only [T.owned,List.count_append];simp only at h1;omega)
  (by
   have h1:=T.blk_some ⟨w.heap.size,0,none⟩ n n w.heap.size
   simp only [List.count_singleton_self] at h1
   simp only [T.owned,List.count_append];omega)
  (fun q v' hq=>by
   simp only [plAt,hx,cond_true] at hq
   cases q with
   | nil=>simp [T.at_] at hq
   | cons s q=>cases s <;> simp only [T.at_] at hq <;> first | exact hq | cases hq)
  (by rw [T.erase,L.xerase])
 refine ⟨h1.alloc _,h2,I,_,g2,g3,g4,true,.slice (some ⟨w.heap.size,0,none⟩) n n,z,n,_,?_,rfl,?_⟩
 ·rw [←g1];simp [hdrF,T.at_,hdr,hu2]
 ·exact ⟨_,n,rfl,by omega,Nat.le_refl _,hn,fun _=>rfl,⟨_,rfl,rfl,rfl,by omega,by simp,fun _=>by simp⟩⟩
end Go.Vc

/- A store to a place. -/
namespace Go.Vc
set_option linter.all false
open T (hdr blk)
namespace T
theorem at_set_same {g:G} {q:Path} {x:G} (h:g.okp q = true):(g.set q x).at_ q = x:=by
 induction q generalizing g with
 | nil=>rfl
 | cons st q ih =>
  cases g <;> cases st <;> simp only [okp,Bool.and_eq_true,decide_eq_true_eq] at h <;> try cases h
  case agg.f.intro s i hi h=>simp only [T.set,T.at_];rw [nth_setN_same _ hi,ih h]
  case sl.i.intro own a z s k hi h=>simp only [T.set,T.at_];rw [nth_setN_same _ hi.2,ih h]
  case box.d.intro own a g ho h=>simp only [T.set,T.at_];exact ih h
  case map.i.intro own a s k hi h=>simp only [T.set,T.at_];rw [nth_setN_same _ hi.2,ih h]
theorem junk_set {g:G} {q q':Path} {x:G} {v:Value} (hk:g.okp q = true) (hj:g.at_ q' = .junk v) (h:∀ r,q'≠q ++ r):(g.set q x).at_ q' = .junk v:=by
 induction q generalizing g q' with
 | nil=>exact absurd rfl (h q')
 | cons st q ih =>
  cases q' with
  | nil =>
   simp only [T.at_] at hj
   subst hj
   cases st <;> simp [okp] at hk
  | cons st' q' =>
   have h':st' = st→∀ r,q'≠q ++ r:=fun e r hr=>h r (by rw [e,hr];rfl)
   cases g <;> cases st <;> simp only [okp,Bool.and_eq_true,decide_eq_true_eq] at hk <;> try cases hk
   case agg.f.intro s i hi hk =>
    cases st' <;> simp only [T.set,T.at_] at hj ⊢ <;> try cases hj
    rename_i j
    by_cases e:j = i
    ·subst e;rw [nth_setN_same _ hi];exact ih hk hj (h' rfl)
    ·rw [nth_setN_other _ e];exact hj
   case sl.i.intro own a z s i hi hk =>
    cases st' <;> simp only [T.set,T.at_] at hj ⊢ <;> try cases hj
    rename_i j
    by_cases e:j = i
    ·subst e;rw [nth_setN_same _ hi.2];exact ih hk hj (h' rfl)
    ·rw [nth_setN_other _ e];exact hj
   case box.d.intro own a g ho hk =>
    cases st' <;> simp only [T.set,T.at_] at hj ⊢ <;> try cases hj
    exact ih hk hj (h' rfl)
   case map.i.intro own a s i hi hk =>
    cases st' <;> simp only [T.set,T.at_] at hj ⊢ <;> try cases hj
    rename_i j
    by_cases e:j = i
    ·subst e;rw [nth_setN_same _ hi.2];exact ih hk hj (h' rfl)
    ·rw [nth_setN_other _ e];exact hj
theorem loc_val {g:G} {q r:Path} {v:Value} (hv:g.at_ q = .val v) (hr:r≠[]):g.loc (q ++ r) = none:=by
 induction q generalizing g with
 | nil =>
  simp only [T.at_] at hv
  subst hv
  cases r with
  | nil=>exact absurd rfl hr
  | cons st r=>cases st <;> simp [loc]
 | cons st q ih =>
  cases g <;> cases st <;> simp only [T.at_] at hv <;> try cases hv
  case agg.f s i =>
   simp only [List.cons_append,loc,ih hv];split <;> rfl
  case sl.i own a z s k =>
   simp only [List.cons_append,loc,ih hv];split <;> rfl
  case box.d own a g=>simp only [List.cons_append,loc,ih hv]
  case map.i own a s k =>
   simp only [List.cons_append,loc,ih hv];split <;> rfl
theorem at_val {g:G} {q:Path} {v:Value} (hv:g.at_ q = .val v) (r:Path):g.at_ (q ++ r) = .val v∨g.at_ (q ++ r) = .nil:=by
 rw [at_append,hv]
 cases r with
 | nil=>exact .inl rfl
 | cons st r=>cases st <;> exact .inr rfl
end T
theorem run_storeCells (P:Program) {b o:Nat} {e:TypeId}:∀ (vs:List Value) (i:Nat) (w:World) (row:Array Value),w.heap[b]? = some (.cells row e (0,0)) →
  (∀ j,j < vs.length→o + i + j < row.size)→(∀ v∈vs,v.oneCell' = true)→∃ w',(storeCells ⟨b,o,none⟩ vs i).run P w = .ok () w' ∧
   w'.heap.size = w.heap.size∧w'.os = w.os∧w'.tape = w.tape∧w'.output = w.output∧(∀ b',b'≠b→w'.heap[b']? = w.heap[b']?) ∧
   ∃ row',w'.heap[b]? = some (.cells row' e (0,0))∧row'.size = row.size ∧
    (∀ j,o + i≤j→j < o + i + vs.length→row'[j]? = vs[j - (o + i)]?)∧(∀ j,(j < o + i∨o + i + vs.length≤j)→row'[j]? = row[j]?):=by
 intro vs
 induction vs with
 | nil =>
  intro i w row hr _ _
  refine ⟨w,by simp [storeCells],rfl,rfl,rfl,rfl,fun _ _=>rfl,row,hr,rfl,fun j h1 h2=>?_,fun _ _=>rfl⟩
  simp only [List.length_nil] at h2;omega
 | cons v vs ih =>
  intro i w row hr hl h1
  simp only [List.length_cons] at hl
  have hl0:=hl 0 (by omega)
  have hadd:(⟨b,o,none⟩:Addr).add i = ⟨b,o + i,none⟩:=by
   unfold Addr.add;split <;> simp_all
  have hc:w.cell? ⟨b,o + i,none⟩ = some (row[o + i]'(by omega)):=by
   rw [cell_of_row w b (o + i) row e (0,0) hr]
   exact Array.getElem?_eq_getElem _
  have hf:w.frozen? ⟨b,o + i,none⟩ = false:=frozen_of_row w b (o + i) row e hr
  have hs:(store ⟨b,o + i,none⟩ v).run P w = .ok () (w.setCell ⟨b,o + i,none⟩ v):=by
   rw [run_store P w _ v .plain (h1 v List.mem_cons_self),hc];simp [hf]
  have hr':(w.setCell ⟨b,o + i,none⟩ v).heap[b]? = some (.cells (row.setIfInBounds (o + i) v) e (0,0)):=heap_setCell_same w b (o + i) row e v hr
  obtain ⟨w',h2,h3,h4,h5,h6,h7,row',h8,h9,h10,h11⟩:=ih (i + 1) (w.setCell ⟨b,o + i,none⟩ v) _ hr' (fun j hj=>by have:=hl (j + 1) (by omega);simp only [Array.size_setIfInBounds];omega) (fun u hu=>h1 u (List.mem_cons_of_mem _ hu))
  refine ⟨w',?_,by rw [h3];simp,h4,h5.trans (by simp),h6,fun b' hb=>?_,row',h8,by rw [h9];simp,fun j hj1 hj2=>?_,fun j hj=>?_⟩
  ·simp only [storeCells,Sem.run_bind,hadd,hs,Result.andThen_ok,h2]
  ·rw [h7 b' hb];exact heap_setCell_other w _ b' v hb
  ·simp only [List.length_cons] at hj2
   by_cases e:j = o + i
   ·subst e
    rw [h11 _ (by omega)]
    simp [show o + i < row.size by omega]
   ·rw [h10 j (by omega) (by omega)]
    rw [show j - (o + i) = (j - (o + (i + 1))) + 1 by omega,List.getElem?_cons_succ]
  ·simp only [List.length_cons] at hj
   rw [h11 j (by omega),Array.getElem?_setIfInBounds_ne (by omega)]
theorem T.Holds.one {h:Array Obj} {I:Nat→Prop} {g:G} (H:T.Holds h I g):∀ v∈g.cells,v.oneCell' = true:=by
 induction g with
 | val v=>intro u hu;simp only [T.cells,List.mem_singleton] at hu;subst hu;exact H
 | junk v=>intro u hu;simp only [T.cells,List.mem_singleton] at hu;subst hu;exact H
 | nil=>intro u hu;cases hu
 | cons a t iha iht=>intro u hu;simp only [T.cells,List.mem_append] at hu;exact hu.elim (iha H.1 u) (iht H.2 u)
 | agg s ih=>exact ih H
 | sl o a z s ih =>
  intro u hu
  simp only [T.cells,List.mem_singleton] at hu
  subst hu
  have:=H.2.2.2
  split at this <;> first | rfl | exact this.elim
 | box o a g ih =>
  intro u hu
  simp only [T.cells,List.mem_singleton] at hu
  subst hu
  have:=H.2.2
  split at this <;> first | rfl | exact this.elim
 | map o a g ih =>
  intro u hu
  simp only [T.cells,List.mem_singleton] at hu
  subst hu
  have:=H.2.2
  split at this <;> first | rfl | exact this.elim
def killOf (old new:D) (k:Nat) (q:Path):List (Nat×Path) :=
 match old,new with
 | .val _,.val _=>[]
 | _,_=>[(k,q)]
theorem mpre_alive {k:Nat} {q q':Path} (h:dead [(k,q)] k q' false = false):∀ r,q' = q ++ r→r = []:=by
 intro r hr
 subst hr
 simp only [dead,List.any_cons,List.any_nil,Bool.or_false,beq_self_eq_true,Bool.true_and,mpre_of_append,Bool.false_or,decide_eq_false_iff_not,List.length_append] at h
 exact List.eq_nil_of_length_eq_zero (by omega)
theorem mpre_alive' {k:Nat} {q q':Path} (h:dead [(k,q)] k q' true = false):∀ r,q'≠q ++ r:=by
 intro r hr
 subst hr
 simp [dead,mpre_of_append] at h
theorem keep_set {g x:G} {k:Nat} {q:Path} (hw:x.width = (g.at_ q).width) (hk:g.okp q = true) {b o:Nat} (hl:g.loc q = some (.abs b o)) {old new:D} (ho:(g.at_ q).erase = old) (hn:x.erase = new) :
  (g.set q x).cells = g.cells∧(∀ q',dead (killOf old new k q) k q' false = false→(g.set q x).loc q' = g.loc q') ∧
   (∀ q',dead (killOf old new k q) k q' true = false→hdr ((g.set q x).at_ q') = hdr (g.at_ q')) ∧
   (∀ q' v,g.at_ q' = .junk v→dead (killOf old new k q) k q' true = false→(g.set q x).at_ q' = .junk v):=by
 refine ⟨T.cells_set_abs hl hw,?_⟩
 have gen:(∀ q',dead [(k,q)] k q' false = false→(g.set q x).loc q' = g.loc q') ∧
   (∀ q',dead [(k,q)] k q' true = false→hdr ((g.set q x).at_ q') = hdr (g.at_ q')) ∧
   (∀ q' v,g.at_ q' = .junk v→dead [(k,q)] k q' true = false→(g.set q x).at_ q' = .junk v) :=
  ⟨fun q' hd=>T.loc_set hw (mpre_alive hd),fun q' hd=>T.hdr_set (mpre_alive' hd),fun q' v hj hd=>T.junk_set hk hj (mpre_alive' hd)⟩
 unfold killOf
 split
 ·rename_i v1 v2
  have hv1:g.at_ q = .val v1:=by
   cases hg:g.at_ q <;> rw [hg] at ho <;> simp [T.erase] at ho
   rw [ho]
  have hv2:x = .val v2:=by
   cases x <;> simp [T.erase] at hn
   rw [hn]
  subst hv2
  have hs:=T.at_set_same (x:=T.val v2) hk
  refine ⟨fun q' _=>?_,fun q' _=>?_,fun q' v hj _=>?_⟩
  ·by_cases h:∃ r,r≠[]∧q' = q ++ r
   ·obtain ⟨r,h1,rfl⟩:=h
    rw [T.loc_val hv1 h1,T.loc_val hs h1]
   ·exact T.loc_set hw fun r hr=>Classical.byContradiction fun hne=>h ⟨r,hne,hr⟩
  ·by_cases h:∃ r,q' = q ++ r
   ·obtain ⟨r,rfl⟩:=h
    rcases T.at_val hv1 r with h1 | h1 <;> rcases T.at_val hs r with h2 | h2 <;> rw [h1,h2] <;> rfl
   ·exact T.hdr_set fun r hr=>h ⟨r,hr⟩
  ·refine T.junk_set hk hj fun r hr=>?_
   subst hr
   rcases T.at_val hv1 r with h1 | h1 <;> rw [h1] at hj <;> cases hj
 ·exact gen
theorem own_mem {F:List G} {k:Nat} {g:G} (hk:F[k]? = some g) {b:Nat} (hb:b∈g.owned):b∈own F:=List.mem_flatMap.2 ⟨g,List.mem_of_getElem? hk,hb⟩
theorem count_other {F:List G} {j k:Nat} {f g:G} (hj:F[j]? = some f) (hk:F[k]? = some g) (h:j≠k) (b:Nat):f.owned.count b + g.owned.count b≤(own F).count b:=by
 induction F generalizing j k with
 | nil=>simp at hj
 | cons x F ih =>
  have base:∀ {i:Nat} {y:G},F[i]? = some y→y.owned.count b≤(own F).count b:=by
   intro i y hy
   have:=own_set hy (.nil) b
   simp only [T.owned,List.count_nil] at this;omega
  cases j with
  | zero =>
   cases k with
   | zero=>exact absurd rfl h
   | succ k =>
    simp only [List.getElem?_cons_zero,Option.some.injEq,List.getElem?_cons_succ] at hj hk
    subst hj
    have:=base hk
    simp only [own,List.flatMap_cons,List.count_append] at *;omega
  | succ j =>
   cases k with
   | zero =>
    simp only [List.getElem?_cons_zero,Option.some.injEq,List.getElem?_cons_succ] at hj hk
    subst hk
    have:=base hj
    simp only [own,List.flatMap_cons,List.count_append] at *;omega
   | succ k =>
    have:=ih (j:=j) (k:=k) (by simpa using hj) (by simpa using hk) (by omega)
    simp only [own,List.flatMap_cons,List.count_append] at *;omega
section
variable {c:Cx} {X:List D} {κ κ0:List (Nat×Path)} {w w':World} {I:Nat→Prop} {F F1:List G} {x:G} {cs:List Value} {r:Tk}
theorem Stp.store (hi:Inv c X κ w I F) (L:Laid w.heap I c.F0.length κ0 F F1 x cs r) {k:Nat} {q:Path} {g:G} (hg:F1[k]? = some g) (hk:g.okp q = true) (hw:x.width = (g.at_ q).width)
  {b o:Nat} (hl:g.loc q = some (.abs b o)) (hsz:w'.heap.size = w.heap.size) (hos:w'.os = w.os) (ht:w'.tape = w.tape) (hp:w'.output = w.output)
  (hh:∀ b',b'≠b→w'.heap[b']? = w.heap[b']?) (hr:T.Turned w.heap w'.heap x (.abs b o)) :
  Stp w w' I I F (F1.set k (g.set q x)) (r.κ ++ killOf (g.at_ q).erase x.erase k q) c.F0.length:=by
 have hbr:=T.abs_rest hk hl
 have hgm:=List.mem_of_getElem? hg
 have hcg:=fun b'=>(T.count_rest hk b').1
 have hcs:=fun b'=>(T.count_rest hk b').2 x
 have hbg:b∈g.owned:=by rw [mem_of_count,hcg b];rw [mem_of_count] at hbr;omega
 have hbF:b∈own F:=L.mem1 (own_mem hg hbg)
 have hone:=fun b'=>count_le_one hi.nodup b'
 have hg1:∀ b',g.owned.count b'≤(own F1).count b':=fun b'=>by
  have:=own_set hg .nil b'
  simp only [T.owned,List.count_nil] at this;omega
 have hib:∀ b',I b'→w'.heap[b']? = w.heap[b']?:=fun b' hb'=>hh b' fun e=>hi.apart b' (e ▸ hbF) hb'
 have hxh:T.Holds w'.heap I x:=L.xholds.agree (fun b' hb'=>hh b' fun e=>by
  subst e
  have h1:=L.count b'
  have h2:=hone b'
  have h3:=hg1 b'
  have h4:=hcg b'
  rw [mem_of_count] at hb' hbr
  omega) hib fun _ h=>h
 have hcnt:∀ b',(own (F1.set k (g.set q x))).count b'≤(own F).count b':=fun b'=>by
  have h1:=own_set hg (g.set q x) b'
  have h2:=L.count b'
  have h3:=hcg b'
  have h4:=hcs b'
  omega
 have hmem:∀ b'∈own (F1.set k (g.set q x)),b'∈own F:=fun b' hb'=>by
  have:=hcnt b'
  rw [mem_of_count] at *;omega
 have hbel:∀ b'∈own F1,b'≠b→w'.heap[b']? = w.heap[b']?:=fun b' _ hne=>hh b' hne
 constructor
 case holds =>
  intro g' hg'
  obtain ⟨j,hj⟩:=List.getElem?_of_mem hg'
  by_cases e:k = j
  ·subst e
   rw [List.getElem?_set_self (List.getElem?_eq_some_iff.1 hg).1] at hj
   cases hj
   exact T.Holds.set hxh hib (fun _ h=>h) (L.holds g hgm) hk hl hw
    (nodup_of_count fun b'=>by have:=hcg b';have:=hg1 b';have:=L.count b';have:=hone b';omega)
    (fun b' hb' hne=>hh b' fun e=>hne o (by rw [e])) hr
  ·rw [List.getElem?_set_ne e] at hj
   refine (L.holds g' (List.mem_of_getElem? hj)).agree (fun b' hb'=>hh b' fun e'=>?_) hib fun _ h=>h
   subst e'
   have h1:=count_other hj hg (Ne.symm e) b'
   have h2:=L.count b'
   have h3:=hone b'
   rw [mem_of_count] at hb' hbg
   omega
 case nodup=>exact nodup_of_count fun b'=>Nat.le_trans (hcnt b') (hone b')
 case apart=>exact fun b' hb'=>hi.apart b' (hmem b' hb')
 case mine=>exact fun b' hb'=>.inl (hmem b' hb')
 case lt=>exact fun b' hb'=>by rw [hsz];exact hi.lt b' (hmem b' hb')
 case ilt=>exact fun b' hb'=>by rw [hsz];exact hi.ilt b' hb'
 case heap=>exact fun b' _ hn=>hh b' fun e=>hn (e ▸ hbF)
 case size=>rw [hsz];exact Nat.le_refl _
 case os=>exact hos
 case tape=>exact ht
 case output=>exact hp
 case imono=>exact fun _ h=>h
 case inew=>exact fun _ h=>.inl h
 case keep =>
  intro j f hj
  obtain ⟨f1,h1,h2⟩:=L.keep.2 j f hj
  by_cases e:k = j
  ·subst e
   rw [hg] at h1
   cases h1
   obtain ⟨k1,k2,k3,k4⟩:=keep_set (k:=k) hw hk hl rfl rfl
   refine ⟨g.set q x,List.getElem?_set_self (List.getElem?_eq_some_iff.1 hg).1,?_⟩
   have hgf:g = f:=by
    rcases h2 with h2 | ⟨⟨a,rfl⟩,_⟩
    ·exact h2
    ·cases q with
     | nil=>simp [T.loc] at hl
     | cons st q=>cases st <;> simp [T.loc] at hl
   subst hgf
   refine ⟨fun _=>k1,fun q' hd=>k2 q' ?_,fun q' hd=>k3 q' ?_,fun q' v hv hd=>k4 q' v hv ?_⟩ <;>
    (rw [dead_append,Bool.or_eq_false_iff] at hd;exact hd.2)
  ·refine ⟨f1,by rw [List.getElem?_set_ne e];exact h1,?_⟩
   rcases h2 with rfl | ⟨⟨a,rfl⟩,h3,h4⟩
   ·exact ⟨fun _=>rfl,fun _ _=>rfl,fun _ _=>rfl,fun _ _ h _=>h⟩
   ·refine ⟨fun h=>by omega,fun q' hq=>?_,fun q' hq=>?_,fun q' v _ hq=>?_⟩
    ·rw [dead_append,Bool.or_eq_false_iff] at hq
     cases q' with
     | nil=>simp [T.loc]
     | cons st q'=>rw [dead_roots' L.keep.1 (by simp),h3] at hq;cases hq.1
    ·rw [dead_append,Bool.or_eq_false_iff,dead_roots L.keep.1,h3] at hq;cases hq.1
    ·rw [dead_append,Bool.or_eq_false_iff,dead_roots L.keep.1,h3] at hq;cases hq.1
end
end Go.Vc

/- Stores, slices made, appends: on states. -/
namespace Go.Vc
set_option linter.all false
open T (hdr blk)
def St.tree (st:St) (k:Nat):D:=st.X.getD k .nil
def Tk.tree (r:Tk) (k:Nat):D:=r.X.getD k .nil
def St.stored (nb:Nat) (st:St) (r:Tk) (k:Nat) (q:Path):St where
 X:=r.X.set k ((r.tree k).set q r.d)
 env:=st.env.kill (r.κ ++ killOf ((r.tree k).at_ q) r.d k q)
 κ:=(bif Nat.ble nb k then [] else killOf ((r.tree k).at_ q) r.d k q) ++ st.κ
 pl:=plKill (r.κ ++ killOf ((r.tree k).at_ q) r.d k q) st.pl ++ (r.pl.filter fun e=>!e.2.dies (r.κ ++ killOf ((r.tree k).at_ q) r.d k q)).map fun e=>(k,q ++ e.1,e.2)
theorem killOf_dead {old new:D} {k j:Nat} {q p:Path} {s:Bool} (h:j≠k):dead (killOf old new k q) j p s = false:=by
 unfold killOf
 split
 ·rfl
 ·simp [dead,h]
theorem Rel.store {c:Cx} {st:St} {a:Act} {w:World} {I:Nat→Prop} {F:List G} {av:AV} {v:Value} (P:Program) (hd:Dfs c.w0.heap.size a.defers w) (hs:a.tmps.size = c.nt)
  (hi:Inv c st.X st.κ w I F) (he:EnvOk st.env a w I F) (hp:PlOk st.pl w I F) (hv:Rl w.heap I F av true [v]) (hc:av.isCell = true) {k:Nat} {q:Path} {b o:Nat}
  (hl:locF F k q = some (.abs b o)) (hok:((av.lay c.F0.length st.X).tree k).okp q = true) (hw:(av.lay c.F0.length st.X).d.width = (((av.lay c.F0.length st.X).tree k).at_ q).width) :
  ∃ w',(storeCells ⟨b,o,none⟩ v.cells.toList).run P w = .ok () w'∧Rel c (st.stored c.F0.length (av.lay c.F0.length st.X) k q) a w':=by
 obtain ⟨F1,x,L,hsq⟩:=lay_ok (nb:=c.F0.length) (F0:=F) (κ0:=[]) hi.holds (KeepR.refl _ F) (hv.toCells hc)
 rw [hi.erase] at L
 have hb:=fun k q s=>@lay_bases c.F0.length av st.X k q s
 generalize av.lay c.F0.length st.X = r at *
 have hx:isSeq x = false:=by rw [hsq];cases av <;> simp_all [AV.isCell,AV.isSeq]
 unfold locF at hl
 cases hf:F[k]? with
 | none=>rw [hf] at hl;simp at hl
 | some f =>
  rw [hf] at hl
  simp only [Option.bind_some] at hl
  obtain ⟨g,hg,hgf⟩:=L.keep.2 k f hf
  have htree:r.tree k = g.erase:=by
   unfold Tk.tree
   rw [←L.erase,List.getD_eq_getElem?_getD,List.getElem?_map,hg];rfl
  rw [htree] at hok hw
  have hok':g.okp q = true:=by rw [←T.okp_erase];exact hok
  have hgf:g = f:=by
   rcases hgf with h | ⟨⟨a',rfl⟩,_⟩
   ·exact h
   ·cases q with
    | nil=>simp [T.loc] at hl
    | cons st' q=>cases st' <;> simp [T.okp] at hok'
  subst hgf
  have hw':x.width = (g.at_ q).width:=by
   rw [←T.erase_width x,L.xerase,hw,←T.erase_at,T.erase_width]
  have hbr:=T.abs_rest hok' hl
  have hrow:=T.loc_read (L.holds g (List.mem_of_getElem? hg)) hl
  obtain ⟨row,e,fr,hrow,hcells⟩:=hrow
  obtain ⟨_,_,hz⟩:=T.loc_mine (L.holds g (List.mem_of_getElem? hg)) hok' hl
  rw [hrow] at hz
  cases hz
  have hlen:∀ j,j < v.cells.toList.length→o + 0 + j < row.size:=fun j hj=>by
   rw [←L.cells,T.cells_length,hw',←T.cells_length] at hj
   have h3:=hcells _ _ (List.getElem?_eq_getElem hj)
   rcases Nat.lt_or_ge (o + j) row.size with h' | h'
   ·omega
   ·rw [Array.getElem?_eq_none h'] at h3;cases h3
  obtain ⟨w',h3,h4,h5,h6,h7,h8,row',h9,h10,h11,h12⟩:=run_storeCells P v.cells.toList 0 w row hrow hlen (by rw [←L.cells];exact L.xholds.one)
  have hxl:v.cells.toList.length = x.width:=by rw [←L.cells,T.cells_length]
  have S:=Stp.store hi L hg hok' hw' hl h4 h5 h6 h7 h8 (w':=w') fun row0 e0 h0=>by
   rw [hrow] at h0
   cases h0
   refine ⟨row',h9,h10,fun j h1 h2=>?_,fun j h1=>h12 j (by omega)⟩
   rw [h11 j (by omega) (by omega),L.cells];rfl
  have hK:killOf (g.at_ q).erase x.erase k q = killOf ((r.tree k).at_ q) r.d k q:=by rw [htree,L.xerase,T.erase_at]
  rw [hK] at S
  refine ⟨w',h3,hd.step hi S,hs,I,F1.set k (g.set q x),?_,he.step hi S,?_⟩
  ·have h1:=hi.step S
   rw [List.append_assoc] at h1
   have h2:=h1.unkill hb
   rw [List.map_set,L.erase,T.erase_set,L.xerase,←htree] at h2
   cases hn:Nat.ble c.F0.length k with
   | false=>simpa [St.stored,hn] using h2
   | true =>
    have:=h2.unkill fun j p s hj=>killOf_dead (by have:=Nat.le_of_ble_eq_true hn;omega)
    simpa [St.stored,hn] using this
  ·intro j p av' hm
   simp only [St.stored,List.mem_append,List.mem_map,List.mem_filter] at hm
   rcases hm with hm | ⟨⟨q',av''⟩,⟨h1,h2⟩,h3⟩
   ·exact hp.step hi S j p av' hm
   ·simp only [Prod.mk.injEq] at h3
    obtain ⟨rfl,rfl,rfl⟩:=h3
    simp only [Bool.not_eq_true'] at h2
    have h2':=h2
    rw [AV.dies_append,Bool.or_eq_false_iff] at h2'
    obtain ⟨u,h13,h14⟩:=L.pl q' av'' h1 (by simpa using h2'.1)
    refine ⟨g.set q x,u,List.getElem?_set_self (List.getElem?_eq_some_iff.1 hg).1,?_,?_⟩
    ·rw [T.at_append,T.at_set_same hok']
     simpa [plAt,hx] using h13
    ·have hbF:b∈own F:=by
      have h1:=(T.count_rest hok' b).1
      refine L.mem1 (own_mem hg ?_)
      rw [mem_of_count] at hbr ⊢;omega
     refine h14.agree (fun b' hb'=>h8 b' fun e=>hi.apart b' (e ▸ hbF) hb') (fun _ h=>h) (AV.all_of_alive h2'.2 (fun j p hd hn=>?_) (fun j p hd hn=>?_) h14)
     ·unfold locF at *
      by_cases e:k = j
      ·subst e
       rw [List.getElem?_set_self (List.getElem?_eq_some_iff.1 hg).1,hg]
       obtain ⟨_,k2,_,_⟩:=keep_set (k:=k) hw' hok' hl rfl rfl
       exact k2 p (by rw [hK];exact hd)
      ·rw [List.getElem?_set_ne e]
     ·unfold hdrF at *
      by_cases e:k = j
      ·subst e
       rw [List.getElem?_set_self (List.getElem?_eq_some_iff.1 hg).1,hg]
       obtain ⟨_,_,k3,_⟩:=keep_set (k:=k) hw' hok' hl rfl rfl
       exact k3 p (by rw [hK];exact hd)
      ·rw [List.getElem?_set_ne e]
theorem cell_zero_len (P:Program) (w:World) (size:Nat) (A:Option Addr) (m c:Nat) (hm:m = 0):(Builtin.firstCells size m (.slice A m c)).run P w = .ok #[] w:=by
 subst hm
 cases A with
 | none=>simp [Builtin.firstCells]
 | some a=>simp [Builtin.firstCells,loadCells,loadCellsFrom]
theorem run_append {P:Program} (w:World) {t ty e:TypeId} {i:TypeInfo} {zv:Value} (ht:P.underlying t = some (.slice e)) (hi:P.info? e = some i) (hz:i.zero = some zv)
  (A:Option Addr) (n cap:Nat) (A2:Option Addr) (m c2:Nat) (hn:n≤cap) (hA:A = none→cap = 0) (hA2:A2 = none→m = 0) (hsp:0 < cap→∀ a,A = some a→a.spot = none)
  (bs ns:List Value) (hbs:bs.length = n * i.size) (hbc:∀ a,A = some a→∀ j v,bs[j]? = some v→w.cell? (a.add j) = some v)
  (hns:ns.length = m * i.size) (hnc:∀ a,A2 = some a→∀ j v,ns[j]? = some v→w.cell? (a.add j) = some v) (h1:∀ u∈ns,u.oneCell' = true)
  (hrow:∀ a,A = some a→0 < m→n + m≤cap→∃ row e',w.heap[a.block]? = some (.cells row e' (0,0))∧a.off + cap * i.size≤row.size)
  (hb:(n + m) * i.bytes≤140737488355328) (h63:n + m≤2 ^ 63 - 1) :
  ∃ v' w',(Builtin.append_ #[t,t] ty #[.slice A n cap,.slice A2 m c2]).run P w = .ok v' w'∧w'.os = w.os∧w'.tape = w.tape∧w'.output = w.output ∧
   ((n + m≤cap∧v' = .slice A (n + m) cap∧w'.heap.size = w.heap.size ∧
     ((m = 0∧w' = w)∨∃ a row e',A = some a∧w.heap[a.block]? = some (.cells row e' (0,0))∧(∀ b',b'≠a.block→w'.heap[b']? = w.heap[b']?) ∧
      ∃ row',w'.heap[a.block]? = some (.cells row' e' (0,0))∧row'.size = row.size ∧
       (∀ j,a.off + n * i.size≤j→j < a.off + n * i.size + ns.length→row'[j]? = ns[j - (a.off + n * i.size)]?) ∧
       (∀ j,(j < a.off + n * i.size∨a.off + n * i.size + ns.length≤j)→row'[j]? = row[j]?))) ∨
    (cap < n + m∧∃ c',n + m≤c'∧c'≤2 ^ 63 - 1∧v' = .slice (some ⟨w.heap.size,0,none⟩) (n + m) c' ∧
     w' = w.drew.alloc (.cells (bs.toArray ++ ns.toArray ++ Builtin.zeroCells zv.cells (c' - (n + m))) e))):=by
 by_cases hm:m = 0
 ·refine ⟨.slice A n cap,w,?_,rfl,rfl,rfl,.inl ⟨by omega,by rw [hm];rfl,rfl,.inl ⟨hm,rfl⟩⟩⟩
  have hf:=cell_zero_len P w i.size A2 m c2 hm
  have hst:∀ (a:Addr) (k:Nat),(storeCells a [] k).run P w = .ok () w:=fun a k=>by simp [storeCells]
  subst hm
  cases A with
  | none=>simp [Builtin.append_,run_underlying ht,sizeOf,typeInfo,hi,Builtin.lenOf,hn,hf]
  | some a=>simp [Builtin.append_,run_underlying ht,sizeOf,typeInfo,hi,Builtin.lenOf,hn,hf,hst]
 ·cases A2 with
  | none=>exact absurd (hA2 rfl) hm
  | some a2 =>
   by_cases hroom:n + m≤cap
   ·cases A with
    | none=>have:=hA rfl;omega
    | some a =>
     obtain ⟨row,e',hr,hsz⟩:=hrow a rfl (by omega) hroom
     have hspa:=hsp (by omega) a rfl
     obtain ⟨b,o,sp⟩:=a
     simp only at hspa hr hsz
     subst hspa
     have hmul:(n + m) * i.size≤cap * i.size:=Nat.mul_le_mul_right _ hroom
     rw [Nat.add_mul] at hmul
     obtain ⟨w',g1,g2,g3,g4,g5,g6,row',g7,g8,g9,g10⟩:=run_storeCells P (b:=b) (o:=o + n * i.size) (e:=e') ns 0 w row hr (fun j hj=>by omega) h1
     have hf:=run_firstCells_some (P:=P) w i.size m a2 m c2 ns hns (hnc a2 rfl)
     have hadd:(⟨b,o,none⟩:Addr).add (n * i.size) = ⟨b,o + n * i.size,none⟩:=by unfold Addr.add;split <;> simp_all
     refine ⟨.slice (some ⟨b,o,none⟩) (n + m) cap,w',?_,g3,g4,g5,.inl ⟨hroom,rfl,g2,.inr ⟨_,row,e',rfl,hr,g6,row',g7,g8,fun j h2 h3=>?_,fun j h2=>?_⟩⟩⟩
     ·simp [Builtin.append_,run_underlying ht,sizeOf,typeInfo,hi,Builtin.lenOf,hroom,hf,hadd,g1]
     ·exact g9 j (by simpa using h2) (by simpa using h3)
     ·exact g10 j (by simpa using h2)
   ·have hge:∀ old,n + m≤grownCap w (n + m) old e:=fun old=>grownCap_ge w (n + m) old e
    have hle:∀ old,grownCap w (n + m) old e≤2 ^ 63 - 1:=fun old=>grownCap_le_maxLen w (n + m) old e h63
    cases A with
    | none =>
     have hc0:=hA rfl
     have hn0:n = 0:=by omega
     subst hc0
     subst hn0
     have hb0:bs = []:=List.eq_nil_of_length_eq_zero (by simpa using hbs)
     subst hb0
     have hr:=run_append_nil (P:=P) w t ty e i zv ht hi hz a2 m c2 ns hns (hnc a2 rfl) (by omega) (by omega) (by have:=hb;simp only [Nat.zero_add] at this;omega)
     have e1:=hge 0
     have e2:=hle 0
     simp only [Nat.zero_add] at e1 e2
     exact ⟨_,_,hr,rfl,rfl,rfl,.inr ⟨by omega,grownCap w m 0 e,by omega,e2,by simp,by simp⟩⟩
    | some a =>
     have hr:=run_append_grow (P:=P) w t ty e i zv ht hi hz a n cap bs hbs (hbc a rfl) a2 m c2 ns hns (hnc a2 rfl) (by omega) (by omega) (growslice_fits (by omega) hb)
     exact ⟨_,_,hr,rfl,rfl,rfl,.inr ⟨by omega,_,hge cap,hle cap,rfl,rfl⟩⟩
end Go.Vc

/- Appends, on states. -/
namespace Go.Vc
set_option linter.all false
open T (hdr blk)
namespace T
section
variable {α:Type}
def app:T α→T α→T α
  | .cons h t,u=>.cons h (t.app u)
  | _,u=>u
theorem erase_app (s u:T α):(s.app u).erase = s.erase.app u.erase:=by
  induction s with
  | cons h t _ iht=>simp [app,erase,iht]
  | _=>simp [app,erase]
theorem len_app (s u:T α):(s.app u).len = s.len + u.len:=by
  induction s with
  | cons h t _ iht=>simp [app,len,iht];omega
  | _=>simp [app,len]
theorem uni_app {z:Nat} {s u:T α} (hs:s.uni z) (hu:u.uni z):(s.app u).uni z:=by
  induction s with
  | cons h t _ iht=>exact ⟨hs.1,iht hs.2⟩
  | nil=>exact hu
  | _=>exact hs.elim
theorem app_nil {z:Nat} {s:T α} (hs:s.uni z):s.app .nil = s:=by
  induction s with
  | cons h t _ iht=>simp [app,iht hs.2]
  | nil=>rfl
  | _=>exact hs.elim
theorem uni_zero {z:Nat} {s:T α} (hs:s.uni z) (h:s.len = 0):s = .nil:=by
  cases s with
  | nil=>rfl
  | cons a t=>simp [len] at h
  | _=>exact hs.elim
end
theorem cells_app {z:Nat} {s:G} (hs:s.uni z) (u:G):(s.app u).cells = s.cells ++ u.cells:=by
  induction s with
  | cons h t _ iht=>simp [app,cells,iht hs.2]
  | nil=>simp [app,cells]
  | _=>exact hs.elim
theorem owned_app {z:Nat} {s:G} (hs:s.uni z) (u:G):(s.app u).owned = s.owned ++ u.owned:=by
  induction s with
  | cons h t _ iht=>simp [app,owned,iht hs.2]
  | nil=>simp [app,owned]
  | _=>exact hs.elim
theorem Holds.app {h:Array Obj} {I:Nat→Prop} {s u:G} (H:Holds h I s) (U:Holds h I u):Holds h I (s.app u):=by
  induction s with
  | cons a t _ iht=>exact ⟨H.1,iht H.2⟩
  | _=>exact U
end T
section
variable {c:Cx} {X:List D} {κ κ1:List (Nat×Path)} {w w':World} {I:Nat→Prop} {F F1:List G}
theorem Stp.setRoot (hi:Inv c X κ w I F) (hk:KeepR c.F0.length F F1 κ1) (hF1:∀ g∈F1,T.Holds w.heap I g) {ext:List Nat} (hx:∀ b,ext.count b + (own F1).count b≤(own F).count b)
    {j:Nat} {g g2:G} (hj:F1[j]? = some g) (hjb:c.F0.length≤j) (hg2:T.Holds w'.heap I g2) (hc:∀ b,b < w.heap.size→g2.owned.count b≤g.owned.count b + ext.count b)
    (hc1:∀ b,w.heap.size≤b→g2.owned.count b≤1) (hlt:∀ b∈g2.owned,b < w'.heap.size) (hh:∀ b,b < w.heap.size→b∉g.owned→w'.heap[b]? = w.heap[b]?)
    (hsz:w.heap.size≤w'.heap.size) (hos:w'.os = w.os) (ht:w'.tape = w.tape) (hp:w'.output = w.output) :
    Stp w w' I I F (F1.set j g2) (κ1 ++ [(j,[])]) c.F0.length:=by
  have hone:=fun b=>count_le_one hi.nodup b
  have hsame:∀ b,b < w.heap.size→b∉own F→w'.heap[b]? = w.heap[b]?:=fun b hb hn=>hh b hb fun hm=>hn (by
    have h1:=hx b
    have h2:=own_mem hj hm
    rw [mem_of_count] at *;omega)
  have hcnt:∀ b,b < w.heap.size→(own (F1.set j g2)).count b≤(own F).count b:=fun b hb=>by
    have h1:=own_set hj g2 b
    have h2:=hx b
    have h3:=hc b hb
    omega
  have hold:∀ b,w.heap.size≤b→(own F).count b = 0:=fun b hb=>List.count_eq_zero.2 fun hm=>by have:=hi.lt b hm;omega
  have hmem:∀ b∈own (F1.set j g2),b < w.heap.size→b∈own F:=fun b hm hb=>by
    have:=hcnt b hb
    rw [mem_of_count] at *;omega
  have hnew:∀ b∈own (F1.set j g2),w.heap.size≤b→b∈g2.owned:=fun b hm hb=>by
    have h1:=own_set hj g2 b
    have h2:=hx b
    have h3:=hold b hb
    rw [mem_of_count] at *;omega
  constructor
  case holds =>
    intro g' hg'
    obtain ⟨i,hgi⟩:=List.getElem?_of_mem hg'
    by_cases e:j = i
    · subst e
      rw [List.getElem?_set_self (List.getElem?_eq_some_iff.1 hj).1] at hgi
      cases hgi;exact hg2
    · rw [List.getElem?_set_ne e] at hgi
      refine (hF1 g' (List.mem_of_getElem? hgi)).agree (fun b hb=>?_) (fun b hb=>hsame b (hi.ilt b hb) (hi.unheld b hb)) fun _ h=>h
      have h1:=count_other hgi hj (Ne.symm e) b
      have h2:=hx b
      have h3:=hone b
      have hbF:b∈own F:=by rw [mem_of_count] at *;omega
      refine hh b (hi.lt b hbF) fun hm=>?_
      rw [mem_of_count] at hb hm
      omega
  case nodup =>
    refine nodup_of_count fun b=>?_
    rcases Nat.lt_or_ge b w.heap.size with hb | hb
    · exact Nat.le_trans (hcnt b hb) (hone b)
    · have h1:=own_set hj g2 b
      have h2:=hx b
      have h3:=hold b hb
      have h4:=hc1 b hb
      omega
  case apart =>
    intro b hb hI
    exact hi.apart b (hmem b hb (hi.ilt b hI)) hI
  case mine =>
    intro b hb
    rcases Nat.lt_or_ge b w.heap.size with h | h
    · exact .inl (hmem b hb h)
    · exact .inr h
  case lt =>
    intro b hb
    rcases Nat.lt_or_ge b w.heap.size with h | h
    · omega
    · exact hlt b (hnew b hb h)
  case ilt=>exact fun b hb=>Nat.lt_of_lt_of_le (hi.ilt b hb) hsz
  case heap=>exact hsame
  case size=>exact hsz
  case os=>exact hos
  case tape=>exact ht
  case output=>exact hp
  case imono=>exact fun _ h=>h
  case inew=>exact fun _ h=>.inl h
  case keep =>
    intro i f hf
    obtain ⟨f1,h1,h2⟩:=hk.2 i f hf
    by_cases e:j = i
    · subst e
      have hd:∀ q,dead (κ1 ++ [(j,[])]) j q true = true:=fun q=>by simp [dead,mpre]
      have hd':∀ q,q≠[]→dead (κ1 ++ [(j,[])]) j q false = true:=fun q hq=>by
        have:=List.length_pos_iff.2 hq
        simp [dead,mpre,this]
      refine ⟨g2,List.getElem?_set_self (List.getElem?_eq_some_iff.1 hj).1,fun h=>by omega,fun q hq=>?_,fun q hq=>?_,fun q v _ hq=>?_⟩
      · cases q with
        | nil=>simp [T.loc]
        | cons st q=>rw [hd' _ (by simp)] at hq;cases hq
      · rw [hd] at hq;cases hq
      · rw [hd] at hq;cases hq
    · refine ⟨f1,by rw [List.getElem?_set_ne e];exact h1,?_⟩
      rcases h2 with rfl | ⟨⟨a,rfl⟩,h3,h4⟩
      · exact ⟨fun _=>rfl,fun _ _=>rfl,fun _ _=>rfl,fun _ _ h _=>h⟩
      · refine ⟨fun h=>by omega,fun q' hq=>?_,fun q' hq=>?_,fun q' v _ hq=>?_⟩
        · rw [dead_append,Bool.or_eq_false_iff] at hq
          cases q' with
          | nil=>simp [T.loc]
          | cons st q'=>rw [dead_roots' hk.1 (by simp),h3] at hq;cases hq.1
        · rw [dead_append,Bool.or_eq_false_iff,dead_roots hk.1,h3] at hq;cases hq.1
        · rw [dead_append,Bool.or_eq_false_iff,dead_roots hk.1,h3] at hq;cases hq.1
end
theorem slice_cells {h:Array Obj} {w:World} (hw:w.heap = h) {I:Nat→Prop} {own:Bool} {z:Nat} {A:Option Addr} {n cap:Nat} {s:G} (H:T.Holds h I (.sl own (.slice A n cap) z s)) :
    n = s.len∧n≤cap∧cap≤2 ^ 63 - 1∧(A = none→cap = 0)∧(own = true∨0 < cap→∀ a,A = some a→a.spot = none)∧s.cells.length = n * z ∧
      (∀ a,A = some a→∀ j v,s.cells[j]? = some v→w.cell? (a.add j) = some v) ∧
      (∀ a,A = some a→0 < cap→∃ row e' fr,h[a.block]? = some (.cells row e' fr)∧(¬ I a.block→fr = (0,0))∧a.off + cap * z≤row.size∧∀ j v,s.cells[j]? = some v→row[a.off + j]? = some v):=by
  subst hw
  obtain ⟨H1,H2,H3,H4⟩:=H
  cases A with
  | none =>
    obtain ⟨rfl,rfl,h3⟩:=H4
    have h0:=T.uni_zero H2 h3
    subst h0
    exact ⟨rfl,Nat.le_refl _,by omega,fun _=>rfl,(fun _ a h=>by cases h),by simp [T.cells],(fun a h=>by cases h),(fun a h=>by cases h)⟩
  | some x =>
    rcases cap with _ | cap
    · obtain ⟨rfl,g1,h3⟩:=H4
      have h0:=T.uni_zero H2 h3
      subst h0
      exact ⟨rfl,Nat.le_refl _,by omega,fun _=>rfl,(fun ho a h=>by cases h;exact g1 (ho.resolve_right (by omega))),by simp [T.cells],(fun a h j v hv=>by simp [T.cells] at hv),fun a h h0=>by omega⟩
    obtain ⟨g1,g2,g3,g4,g5,row,e,fr,g6,gf,g7,g8⟩:=H4
    refine ⟨g2,g3,g4,(fun h=>by cases h),(fun _ a h=>by cases h;exact g1),by rw [T.cells_length,T.uni_width H2,←g2],?_,?_⟩
    · intro a ha j v hv
      cases ha
      obtain ⟨xb,xo,xs⟩:=x
      simp only at g1 g6 g8
      subst g1
      have hadd:(⟨xb,xo,none⟩:Addr).add j = ⟨xb,xo + j,none⟩:=by unfold Addr.add;split <;> simp_all
      rw [hadd,cell_of_row w xb (xo + j) row e fr g6]
      exact g8 j v hv
    · intro a ha _
      cases ha
      exact ⟨row,e,fr,g6,fun hn=>gf (by cases own <;> simp_all),g7,g8⟩
theorem append_node {P:Program} (w:World) {I:Nat→Prop} {t ty e:TypeId} {i:TypeInfo} {zv:Value} (ht:P.underlying t = some (.slice e)) (hi:P.info? e = some i) (hz:i.zero = some zv)
    {own1 own2:Bool} {A A2:Option Addr} {n cap m c2:Nat} {s x:G} (H1:T.Holds w.heap I (.sl own1 (.slice A n cap) i.size s)) (H2:T.Holds w.heap I (.sl own2 (.slice A2 m c2) i.size x))
    (hzs:zv.cells.size = i.size) (hIlt:∀ b,I b→b < w.heap.size)
    (hI:n + m≤cap→0 < m→∀ a,A = some a→¬ I a.block∧a.block∉s.owned∧a.block∉x.owned) (hlt:∀ b∈s.owned ++ x.owned,b < w.heap.size)
    (hb:(n + m) * i.bytes≤140737488355328) (h63:n + m≤2 ^ 63 - 1) :
    ∃ v' w',(Builtin.append_ #[t,t] ty #[.slice A n cap,.slice A2 m c2]).run P w = .ok v' w'∧w'.os = w.os∧w'.tape = w.tape∧w'.output = w.output∧w.heap.size≤w'.heap.size ∧
      (∀ b,b < w.heap.size→(∀ a,A = some a→n + m≤cap→0 < m→b≠a.block)→w'.heap[b]? = w.heap[b]?) ∧
      (∃ A' c',v' = .slice A' (n + m) c')∧(cap < n + m→∃ c',v' = .slice (some ⟨w.heap.size,0,none⟩) (n + m) c'∧w.heap.size < w'.heap.size) ∧
      (n + m≤cap→v' = .slice A (n + m) cap∧w'.heap.size = w.heap.size) ∧
      ((n + m≤cap→own1 = true)→T.Holds w'.heap I (.sl true v' i.size (s.app x))):=by
  obtain ⟨a1,a2,a3,a4,a5,a6,a7,a8⟩:=slice_cells rfl H1
  obtain ⟨b1,b2,b3,b4,b5,b6,b7,b8⟩:=slice_cells rfl H2
  obtain ⟨v',w',r1,r2,r3,r4,r5⟩:=run_append w (ty:=ty) ht hi hz A n cap A2 m c2 a2 a4 (fun h=>by have:=b4 h;omega) (fun h=>a5 (.inr h)) s.cells x.cells a6 a7 b6 b7 H2.1.one
    (fun a ha h0 hle=>by obtain ⟨row,e',fr,h1,hf,h2,_⟩:=a8 a ha (by omega);obtain rfl:=hf (hI hle h0 a ha).1;exact ⟨row,e',h1,h2⟩) hb h63
  have hl:(s.app x).len = n + m:=by rw [T.len_app,←a1,←b1]
  have hcs:(s.app x).cells = s.cells ++ x.cells:=T.cells_app H1.2.1 x
  rcases r5 with ⟨c1,c2',c3,c4⟩ | ⟨c1,c',c2',c3,c4,c5⟩
  · -- in place
    subst c2'
    rcases c4 with ⟨hm,hw⟩ | ⟨a,row,e',hA,hr,ho,row',h1,h2,h3,h4⟩
    · have hwh:w' = w:=hw
      subst hw
      have hx0:x = .nil:=T.uni_zero H2.2.1 (by omega)
      subst hx0
      refine ⟨_,w',r1,r2,r3,r4,Nat.le_refl _,fun _ _ _=>rfl,⟨_,_,rfl⟩,fun h=>by omega,fun _=>⟨rfl,rfl⟩,fun hown=>?_⟩
      subst hm
      rw [T.app_nil H1.2.1]
      rw [hown (by omega)] at H1
      exact H1
    · subst hA
      have hmul:(n + m) * i.size≤cap * i.size:=Nat.mul_le_mul_right _ c1
      rw [Nat.add_mul] at hmul
      refine ⟨_,w',r1,r2,r3,r4,by omega,fun b hb hne=>?_,⟨_,_,rfl⟩,fun h=>by omega,fun _=>⟨rfl,c3⟩,fun hown=>?_⟩
      · by_cases hm:0 < m
        · exact ho b (hne a rfl c1 hm)
        · by_cases e:b = a.block
          · subst e
            have hx0 : x.cells.length = 0 := by rw [b6]; have : m = 0 := by omega
                                                subst this;simp
            rw [h1,hr]
            have:row' = row:=by
              apply Array.ext_getElem?
              intro j
              exact h4 j (by omega)
            rw [this]
          · exact ho b e
      · rcases Nat.eq_zero_or_pos cap with h0 | h0
        · subst h0
          have hs:s.app x = .nil:=T.uni_zero (T.uni_app H1.2.1 H2.2.1) (by omega)
          rw [hs]
          exact ⟨trivial,trivial,(by intro h;cases h),by omega,fun _=>a5 (.inl (hown (by omega))) a rfl,rfl⟩
        obtain ⟨cap,rfl⟩:∃ k,cap = k + 1:=⟨cap - 1,by omega⟩
        obtain ⟨row0,e0,fr0,q1,q1f,q2,q3⟩:=a8 a rfl h0
        rw [hr] at q1
        cases q1
        have hfr:∀ {g:G},T.Holds w.heap I g→(0 < m→a.block∉g.owned)→T.Holds w'.heap I g:=fun {g} hg hn=>by
          by_cases hm:0 < m
          · refine hg.agree (fun b hb=>ho b fun e=>hn hm (e ▸ hb)) (fun b hb=>ho b fun e=>(hI c1 hm a rfl).1 (e ▸ hb)) fun _ h=>h
          · have hsame:∀ b,w'.heap[b]? = w.heap[b]?:=fun b=>by
              by_cases e:b = a.block
              · subst e
                have hx0 : x.cells.length = 0 := by rw [b6]; have : m = 0 := by omega
                                                    subst this;simp
                rw [h1,hr]
                have:row' = row:=by
                  apply Array.ext_getElem?
                  intro j
                  exact h4 j (by omega)
                rw [this]
              · exact ho b e
            exact hg.agree (fun b _=>hsame b) (fun b _=>hsame b) fun _ h=>h
        refine ⟨(hfr H1.1 fun hm=>(hI c1 hm a rfl).2.1).app (hfr H2.1 fun hm=>(hI c1 hm a rfl).2.2),T.uni_app H1.2.1 H2.2.1,(by intro h;cases h),a5 (.inr (by omega)) a rfl,hl.symm,c1,a3,(by intro h;cases h),row',_,_,h1,fun _=>rfl,by rw [h2];exact q2,fun j u hu=>?_⟩
        rw [hcs] at hu
        by_cases hj:j < s.cells.length
        · rw [List.getElem?_append_left hj] at hu
          rw [h4 _ (by omega)]
          exact q3 j u hu
        · rw [List.getElem?_append_right (by omega)] at hu
          have hj2:j - s.cells.length < x.cells.length:=by
            rcases Nat.lt_or_ge (j - s.cells.length) x.cells.length with h' | h'
            · exact h'
            · rw [List.getElem?_eq_none h'] at hu;cases hu
          rw [h3 _ (by omega) (by omega),←hu];congr 1;omega
  · subst c4
    subst c5
    have hheap:∀ b,b < w.heap.size→∀ o,(w.drew.alloc o).heap[b]? = w.heap[b]?:=fun b hb o=>heap_alloc (w:=w.drew) hb
    refine ⟨_,_,r1,r2,r3,r4,by simp,fun b hb _=>hheap b hb _,⟨_,_,rfl⟩,fun _=>⟨_,rfl,by simp⟩,fun h=>by omega,fun _=>?_⟩
    have hfr:∀ {g:G} {o:Obj},T.Holds w.heap I g→(∀ b∈g.owned,b < w.heap.size)→T.Holds (w.drew.alloc o).heap I g:=fun {g o} hg hn =>
      hg.agree (fun b hb=>hheap b (hn b hb) o) (fun b hb=>hheap b (hIlt b hb) o) fun _ h=>h
    obtain ⟨c',rfl⟩:∃ k,c' = k + 1:=⟨c' - 1,by omega⟩
    refine ⟨(hfr H1.1 fun b hb=>hlt b (by simp [hb])).app (hfr H2.1 fun b hb=>hlt b (by simp [hb])),T.uni_app H1.2.1 H2.2.1,(by intro h;cases h),rfl,hl.symm,c2',c3,(by intro h;cases h),_,e,_,heap_alloc_new w.drew _,fun _=>rfl,?_,fun j u hu=>?_⟩
    · have hzc:(Builtin.zeroCells zv.cells (c' + 1 - (n + m))).size = (c' + 1 - (n + m)) * i.size:=by rw [size_zeroCells,hzs]
      have:(n + m) * i.size + (c' + 1 - (n + m)) * i.size = (c' + 1) * i.size:=by rw [←Nat.add_mul];congr 1;omega
      simp only [Array.size_append,List.size_toArray,a6,b6,hzc,Nat.zero_add]
      rw [←Nat.add_mul,this];exact Nat.le_refl _
    · rw [hcs] at hu
      have hj:j < (s.cells ++ x.cells).length:=by
        rcases Nat.lt_or_ge j (s.cells ++ x.cells).length with h' | h'
        · exact h'
        · rw [List.getElem?_eq_none h'] at hu;cases hu
      simp only [Nat.zero_add]
      rw [←Array.getElem?_toList]
      simp only [Array.toList_append,List.append_assoc]
      rw [←List.append_assoc,List.getElem?_append_left hj];exact hu
end Go.Vc

/- Tables of a program's types, and the operations that touch no memory: their conditions, and that they hold what they promise. -/
namespace Go.Vc
set_option linter.all false
open T (hdr blk)
inductive KK where
 | str
 | int (k:IntKind)
 | two
def KK.is:KK→Value→Prop
 | .str,.string _=>True
 | .int k,.int k' _=>k' = k
 | .two,.agg vs=>∃ a b:Int,vs = #[.int .i64 a,.int .i64 b]
 | _,_=>False
structure KOps (P:Program) (kt:TypeId) (p:Value→Prop):Prop where
 check:∀ (w:World) (em:Bool) {v:Value},p v→(Instr.checkKey em 10000 kt v).run P w = .ok () w
 find:∀ (w:World) {x:Value},p x→∀ es:List MapEntry,(∀ e∈es,p e.key) →
  ((Instr.findKey kt x es).run P w = .ok none w∧∀ e∈es,e.key≠x)∨∃ j e,(Instr.findKey kt x es).run P w = .ok (some (j,e.val)) w∧es[j]? = some e∧e.key = x
 stays:∀ (w:World) {v:Value},p v→(Instr.keyThatStays v v).run P w = .ok v w
theorem KOps.plain {P:Program} {kt:TypeId} {d:TypeDesc} (hu:P.underlying kt = some d) {p:Value→Prop} (hp:∀ v,p v→MapKept.IsKey d v):KOps P kt p where
 check w em v h:=MapKept.run_checkKey hu (hp v h) em 9999
 find w x h es hes:=by
  rcases MapKept.findNow_spec (hp x h) es 0 (fun e he=>hp _ (hes e he)) with ⟨h1,h2⟩ | ⟨j,e,h1,h2,h3⟩
  ·exact .inl ⟨MapKept.run_findKey hu h1,h2⟩
  ·exact .inr ⟨j,e,by have:=MapKept.run_findKey (P:=P) (w:=w) hu h1;rwa [Nat.zero_add] at this,h2,h3⟩
 stays w v h:=MapKept.run_keyThatStays (hp v h)
theorem KOps.str {P:Program} {kt:TypeId} (hu:P.underlying kt = some .string):KOps P kt KK.str.is:=.plain hu fun v h=>by cases v <;> first | exact h | exact h.elim
theorem KOps.int {P:Program} {kt:TypeId} {k:IntKind} (hu:P.underlying kt = some (.int k)):KOps P kt (KK.int k).is:=.plain hu fun v h=>by cases v <;> first | exact h | exact h.elim
section
variable {P:Program} {kt:TypeId} {f g:Field} {w:World}
theorem run_isAgg_int {t:TypeId} {k:IntKind} (h:P.underlying t = some (.int k)):(isAgg t).run P w = .ok false w:=by simp [isAgg,run_underlying h]
theorem run_equal_two (hu:P.underlying kt = some (.struct #[f,g])) (hs:P.stoodInHeld kt = false) (hf:f.name ≠ "_" ∧ f.offset = 0∧P.underlying f.type = some (.int .i64)) (hg:g.name ≠ "_" ∧ g.offset = 1∧P.underlying g.type = some (.int .i64)) (a b c d:Int) :
  (Op.equal kt (.agg #[.int .i64 a,.int .i64 c]) (.agg #[.int .i64 b,.int .i64 d])).run P w = .ok (decide (a = b) && decide (c = d)) w:=by
 obtain ⟨f1,f2,f3⟩:=hf
 obtain ⟨g1,g2,g3⟩:=hg
 have key:∀ n,(Op.equalIn (n + 2) kt (.agg #[.int .i64 a,.int .i64 c]) (.agg #[.int .i64 b,.int .i64 d])).run P w = .ok (decide (a = b) && decide (c = d)) w:=fun n=>by
  have hfs:P.fieldsOf kt = #[f,g]:=by simp [Program.fieldsOf,hu]
  rw [run_equalIn_struct w (n + 1) kt _ _ (by rw [hfs];exact hu) hs,hfs]
  have p1:∀ x y:Int,(part f.type #[.int .i64 x,.int .i64 y] f.offset).run P w = .ok (.int .i64 x) w:=fun x y=>by simp [part,run_isAgg_int f3,f2]
  have p2:∀ x y:Int,(part g.type #[.int .i64 x,.int .i64 y] g.offset).run P w = .ok (.int .i64 y) w:=fun x y=>by simp [part,run_isAgg_int g3,g2]
  have e1:=run_equalIn_int w n f.type .i64 .i64 a b f3
  have e2:=run_equalIn_int w n g.type .i64 .i64 c d g3
  simp only [Op.eqFields,f1,g1,ne_eq,not_false_eq_true,if_true,Sem.run_bind,p1,e1,Result.andThen_ok]
  by_cases h1:a = b
  ·subst h1
   by_cases h2:c = d
   ·subst h2;simp [e2,p2]
   ·simp [h2,e2,p2]
  ·simp [h1]
 exact key 9998
theorem KOps.two (hu:P.underlying kt = some (.struct #[f,g])) (hs:P.stoodInHeld kt = false) (hf:f.name ≠ "_" ∧ f.offset = 0∧P.underlying f.type = some (.int .i64)) (hg:g.name ≠ "_" ∧ g.offset = 1∧P.underlying g.type = some (.int .i64)):KOps P kt KK.two.is:=by
 have form:∀ v,KK.two.is v→∃ a b:Int,v = .agg #[.int .i64 a,.int .i64 b]:=fun v h=>by
  cases v <;> first | exact h.elim | (obtain ⟨a,b,rfl⟩:=h;exact ⟨a,b,rfl⟩)
 have hask:∀ (w:World) (x:Value) (es:List MapEntry),KK.two.is x→(∀ e∈es,KK.two.is e.key)→∀ i,
   ((Instr.findAsking kt x es i).run P w = .ok none w∧∀ e∈es,e.key≠x)∨∃ j e,(Instr.findAsking kt x es i).run P w = .ok (some (i + j,e.val)) w∧es[j]? = some e∧e.key = x:=by
  intro w x es hx
  obtain ⟨a,c,rfl⟩:=form x hx
  induction es with
  | nil=>intro _ i;exact .inl ⟨rfl,fun e h=>by cases h⟩
  | cons e es ih =>
   intro hes i
   obtain ⟨b,d,he⟩:=form _ (hes e List.mem_cons_self)
   have hr:=run_equal_two (w:=w) hu hs hf hg a b c d
   have hcons:(Instr.findAsking kt (.agg #[.int .i64 a,.int .i64 c]) (e :: es) i).run P w = if (decide (a = b) && decide (c = d)) = true then .ok (some (i,e.val)) w else (Instr.findAsking kt (.agg #[.int .i64 a,.int .i64 c]) es (i + 1)).run P w:=by
    rw [Instr.findAsking,he]
    simp only [Sem.run_bind,hr,Result.andThen_ok]
    split <;> simp_all
   by_cases heq:a = b∧c = d
   ·refine .inr ⟨0,e,?_,rfl,by rw [he,heq.1,heq.2]⟩
    rw [hcons,if_pos (by simpa using heq)];rfl
   ·have hne:e.key≠.agg #[.int .i64 a,.int .i64 c]:=fun h=>by
     rw [he] at h
     simp at h
     exact heq ⟨h.1.symm,h.2.symm⟩
    rw [hcons,if_neg (by simpa using heq)]
    rcases ih (fun e h=>hes e (List.mem_cons_of_mem _ h)) (i + 1) with ⟨h1,h2⟩ | ⟨j,e',h1,h2,h3⟩
    ·refine .inl ⟨h1,fun e' h=>?_⟩
     rcases List.mem_cons.1 h with rfl | h
     ·exact hne
     ·exact h2 e' h
    ·exact .inr ⟨j + 1,e',by rw [h1];congr 3;omega,by simpa using h2,h3⟩
 refine ⟨fun w em v h=>?_,fun w x h es hes=>?_,fun w v h=>?_⟩
 ·obtain ⟨a,b,rfl⟩:=form v h
  obtain ⟨f1,f2,f3⟩:=hf
  obtain ⟨g1,g2,g3⟩:=hg
  have key:∀ n,(Instr.checkKey em (n + 2) kt (.agg #[.int .i64 a,.int .i64 b])).run P w = .ok () w:=fun n=>by
   simp [Instr.checkKey,run_underlying hu,run_underlying f3,run_underlying g3,part,f1,f2,g1,g2,run_isAgg_int f3,run_isAgg_int g3]
  exact key 9998
 ·rw [run_findKey_eq w (by rw [hu])]
  have:=hask w x es h hes 0
  simpa using this
 ·obtain ⟨a,b,rfl⟩:=form v h
  have key:∀ n,Instr.sameBits (n + 2) (.agg #[.int .i64 a,.int .i64 b]) (.agg #[.int .i64 a,.int .i64 b]) = true:=fun n=>by simp [Instr.sameBits]
  unfold Instr.keyThatStays
  rw [if_pos (key 9998)];rfl
end
structure Ty where
 sl:Option (Nat×Nat×Nat×Value):=none
 ld:Option (Bool×Nat):=none
 zero:Option G:=none
 st:Option (List (Nat×Nat)):=none
 ar:Option (Nat×Nat):=none
 int:Option IntKind:=none
 ptr:Bool:=false
 str:Bool:=false
 bool:Bool:=false
 mp:Option (Nat×KK):=none
 ae:Bool:=false
def zeroish:G→Bool
 | .val v=>v.oneCell'
 | .nil=>true
 | .cons h t=>zeroish h && zeroish t
 | .agg s=>zeroish s
 | .sl true (.slice none 0 0) _ .nil=>true
 | _=>false
def aggTy (P:Program) (t:TypeId):Bool :=
 match P.underlying t with
 | some (.struct _)=>true
 | some (.array _ _)=>true
 | _=>false
structure Ty.Ok (P:Program) (t:TypeId) (y:Ty):Prop where
 sl:∀ e z by_ zv,y.sl = some (e,z,by_,zv)→P.underlying t = some (.slice e)∧∃ i,P.info? e = some i∧i.zero = some zv∧i.size = z∧i.bytes = by_∧zv.cells.size = z
 ld:∀ b n,y.ld = some (b,n)→aggTy P t = b∧(P.underlying t).isSome = true∧∃ i,P.info? t = some i∧i.size = n
 zero:∀ g,y.zero = some g→zeroish g = true∧∃ i z,P.info? t = some i∧i.zero = some z∧z.cells.toList = g.cells
 zone:∀ g,y.zero = some g→∃ i z,P.info? t = some i∧i.zero = some z∧T.vAgg z = T.aggy g
 st:∀ l,y.st = some l→∃ fs,P.underlying t = some (.struct fs)∧fs.toList.map (fun f=>(f.offset,P.cellsOf f.type)) = l∧(∀ f∈fs.toList,(P.info? f.type).isSome = true)∧l.all (fun x=>x.2 != 0) = true
 ar:∀ n z,y.ar = some (n,z)→∃ e,P.underlying t = some (.array n e)∧∃ i,P.info? e = some i∧i.size = z
 int:∀ k,y.int = some k→P.underlying t = some (.int k)
 ptr:y.ptr = true→∃ e,P.underlying t = some (.pointer e)
 str:y.str = true→P.underlying t = some .string
 bool:y.bool = true→P.underlying t = some .bool
 mp:∀ e kd,y.mp = some (e,kd)→∃ k,P.underlying t = some (.map k e)∧KOps P k kd.is
 ae:y.ae = true→∃ n e,P.underlying t = some (.array n e)∧aggTy P e = false∧(P.underlying e).isSome = true
abbrev Tab:=TypeId→Ty
def Tab.Ok (P:Program) (τ:Tab):Prop:=∀ t,(τ t).Ok P t
theorem zeroish_holds {g:G} (h:zeroish g = true) (hp:Array Obj) (I:Nat→Prop):T.Holds hp I g∧g.owned = []:=by
 induction g with
 | val v=>exact ⟨h,rfl⟩
 | junk v=>cases h
 | nil=>exact ⟨trivial,rfl⟩
 | cons a t iha iht =>
  simp only [zeroish,Bool.and_eq_true] at h
  exact ⟨⟨(iha h.1).1,(iht h.2).1⟩,by simp [T.owned,(iha h.1).2,(iht h.2).2]⟩
 | agg s ih=>exact ⟨(ih h).1,(ih h).2⟩
 | sl o a z s ih =>
  unfold zeroish at h
  split at h <;> simp_all [T.Holds,T.owned,T.uni,T.free,T.len,blk]
 | box o a g ih=>cases h
 | map o a s ih=>cases h
def AV.ofZ:G→AV
 | .val v=>.val v
 | .nil=>.nil
 | .cons h t=>.cons (AV.ofZ h) (AV.ofZ t)
 | .agg s=>.agg (AV.ofZ s)
 | .sl _ _ z _=>.nils z
 | _=>.bad
theorem ofZ_rl {g:G} (h:zeroish g = true) {hp:Array Obj} {I:Nat→Prop} {F:List G}:Rl hp I F (AV.ofZ g) false g.cells:=by
 induction g with
 | val v=>exact ⟨rfl,h⟩
 | junk v=>cases h
 | nil=>exact rfl
 | cons a t iha iht =>
  simp only [zeroish,Bool.and_eq_true] at h
  exact ⟨_,_,rfl,iha h.1,iht h.2⟩
 | agg s ih=>exact ih h
 | sl o a z s ih =>
  unfold zeroish at h
  split at h <;> simp_all [AV.ofZ,T.cells,Rl]
 | box o a g ih=>cases h
 | map o a s ih=>cases h
def AV.width:AV→Nat
 | .nil=>0
 | .cons a t=>a.width + t.width
 | .agg s=>s.width
 | _=>1
def AV.nth:AV→Nat→AV
 | .cons a _,0=>a
 | .cons _ t,i + 1=>t.nth i
 | _,_=>.bad
def AV.len:AV→Nat
 | .cons _ t=>t.len + 1
 | _=>0
def AV.offs:AV→Nat→Nat
 | .cons a t,i + 1=>a.width + t.offs i
 | _,_=>0
def AV.ofList:List AV→AV
 | []=>.nil
 | a :: l=>.cons a (AV.ofList l)
section
variable {h:Array Obj} {I:Nat→Prop} {F:List G}
theorem Rl.width {av:AV} {cs:List Value} (H:Rl h I F av false cs):cs.length = av.width:=by
 induction av generalizing cs with
 | cons a t iha iht=>obtain ⟨v1,v2,rfl,h1,h2⟩:=H;simp [AV.width,iha h1,iht h2]
 | agg s ih=>exact ih H
 | tup s ih=>exact H.elim
 | nil=>cases H;rfl
 | bad=>obtain ⟨v,rfl,_⟩:=H;rfl
 | val v=>obtain ⟨rfl,_⟩:=H;rfl
 | nils z=>cases H;rfl
 | cut n=>obtain ⟨A,c,rfl⟩:=H;rfl
 | ptr k q=>obtain ⟨b,o,_,rfl⟩:=H;rfl
 | sub k q lo n ex=>obtain ⟨_,_,_,_,_,_,rfl,_⟩:=H;rfl
 | mp k q=>obtain ⟨_,_,_,_,_,rfl⟩:=H;rfl
 | imm z s ex=>obtain ⟨v,rfl,_⟩:=H;rfl
 | iptr d=>obtain ⟨v,rfl,_⟩:=H;rfl
 | fn f s ih=>obtain ⟨l,rfl,_⟩:=H;rfl
theorem Rl.nth {s:AV} {cs:List Value} (H:Rl h I F s false cs) {i:Nat} (hi:i < s.len):Rl h I F (s.nth i) false ((cs.drop (s.offs i)).take (s.nth i).width):=by
 induction s generalizing cs i with
 | cons a t iha iht =>
  obtain ⟨v1,v2,rfl,h1,h2⟩:=H
  cases i with
  | zero=>simp only [AV.nth,AV.offs,List.drop_zero,←h1.width,List.take_left];exact h1
  | succ i =>
   simp only [AV.nth,AV.offs]
   rw [←h1.width,List.drop_length_add_append]
   exact iht h2 (by simpa [AV.len] using hi)
 | _=>simp [AV.len] at hi
theorem Rl.nthV {s:AV} {vs:List Value} (H:Rl h I F s true vs) (hs:∃ a t,s = .cons a t) {i:Nat} (hi:i < s.len):∃ v,vs[i]? = some v∧Rl h I F (s.nth i) true [v]:=by
 induction s generalizing vs i with
 | cons a t iha iht =>
  obtain ⟨v,vs',rfl,h1,h2⟩:=H
  cases i with
  | zero=>exact ⟨v,rfl,h1⟩
  | succ i =>
   cases t with
   | cons b u=>exact iht h2 ⟨b,u,rfl⟩ (by simpa [AV.len] using hi)
   | _=>simp [AV.len] at hi
 | _=>simp [AV.len] at hi
theorem Rl.ofAgg {s:AV} {cs:List Value} (H:Rl h I F (.agg s) false cs):Rl h I F (.agg s) true [.agg cs.toArray]:=⟨cs,rfl,H⟩
def AV.isOne:AV→Bool
 | .val _ | .nils _ | .ptr _ _ | .sub _ _ _ _ _ | .mp _ _ | .imm _ _ _ | .iptr _ | .fn _ _=>true
 | _=>false
theorem Rl.ofOne {av:AV} {cs:List Value} (ho:av.isOne = true) (H:Rl h I F av false cs):∃ v,cs = [v]∧Rl h I F av true [v]∧v.oneCell' = true:=by
 cases av with
 | val v=>obtain ⟨rfl,h1⟩:=H;exact ⟨v,rfl,⟨rfl,h1⟩,h1⟩
 | nils z=>cases H;exact ⟨_,rfl,rfl,rfl⟩
 | ptr k q=>obtain ⟨b,o,h1,rfl⟩:=H;exact ⟨_,rfl,⟨b,o,h1,rfl⟩,rfl⟩
 | sub k q lo n ex=>obtain ⟨a1,a2,a3,a4,v,h1,rfl,h2⟩:=H;exact ⟨_,rfl,⟨a1,a2,a3,a4,v,h1,rfl,h2⟩,Rl_sub_one h2⟩
 | mp k q=>obtain ⟨a1,a2,a3,a4,h1,rfl⟩:=H;exact ⟨_,rfl,⟨a1,a2,a3,a4,h1,rfl⟩,rfl⟩
 | imm z s ex =>
  obtain ⟨v,rfl,h1⟩:=H
  refine ⟨_,rfl,⟨v,rfl,h1⟩,?_⟩
  obtain ⟨s',_,h2,_⟩:=h1
  exact T.Holds.one h2 v (by simp [T.cells])
 | iptr d =>
  obtain ⟨v,rfl,h1⟩:=H
  refine ⟨_,rfl,⟨v,rfl,h1⟩,?_⟩
  obtain ⟨g,x,_,_,_,rfl,_⟩:=h1
  rfl
 | fn f s=>obtain ⟨l,rfl,h1⟩:=H;exact ⟨_,rfl,⟨l,rfl,h1⟩,rfl⟩
 | _=>cases ho
theorem Rl.isOne {av:AV} {v:Value} (ho:av.isOne = true) (H:Rl h I F av true [v]):Rl h I F av false [v]∧v.oneCell' = true:=by
 cases av with
 | val v'=>obtain ⟨h0,h1⟩:=H;cases h0;exact ⟨⟨rfl,h1⟩,h1⟩
 | nils z=>cases H;exact ⟨rfl,rfl⟩
 | ptr k q=>obtain ⟨b,o,h1,h0⟩:=H;cases h0;exact ⟨⟨b,o,h1,rfl⟩,rfl⟩
 | sub k q lo n ex=>obtain ⟨a1,a2,a3,a4,v',h1,h0,h2⟩:=H;cases h0;exact ⟨⟨a1,a2,a3,a4,_,h1,rfl,h2⟩,Rl_sub_one h2⟩
 | mp k q=>obtain ⟨a1,a2,a3,a4,h1,h0⟩:=H;cases h0;exact ⟨⟨a1,a2,a3,a4,h1,rfl⟩,rfl⟩
 | imm z s ex =>
  obtain ⟨v',h0,h1⟩:=H
  cases h0
  refine ⟨⟨_,rfl,h1⟩,?_⟩
  obtain ⟨s',_,h2,_⟩:=h1
  exact T.Holds.one h2 _ (by simp [T.cells])
 | iptr d =>
  obtain ⟨v',h0,h1⟩:=H
  cases h0
  refine ⟨⟨_,rfl,h1⟩,?_⟩
  obtain ⟨g,x,_,_,_,rfl,_⟩:=h1
  rfl
 | fn f s=>obtain ⟨l,h0,h1⟩:=H;cases h0;exact ⟨⟨l,rfl,h1⟩,rfl⟩
 | _=>cases ho
end
def St.ev (st:St):Operand→AV
 | .tmp t=>look st.env t
 | .const v=>bif v.oneCell' then .val v else .bad
 | .func f=>.fn f .nil
 | .global _=>.bad
def St.evT (τ:Tab) (st:St) (t:TypeId):Operand→AV
 | .const (.slice none 0 0)=>match (τ t).sl with
  | some (_,z,_,_)=>.nils z
  | none=>.val (.slice none 0 0)
 | x=>st.ev x
theorem EnvOk.ev {st:St} {a:Act} {w:World} {I:Nat→Prop} {F:List G} (he:EnvOk st.env a w I F) (x:Operand):Rl w.heap I F (st.ev x) true [a.eval x]:=by
 cases x with
 | tmp t=>exact he t
 | const v =>
  simp only [St.ev,Act.eval]
  cases hv:v.oneCell' with
  | true=>exact ⟨rfl,hv⟩
  | false=>exact ⟨v,rfl⟩
 | func f=>exact ⟨[],rfl,rfl⟩
 | global g=>exact ⟨_,rfl⟩
theorem EnvOk.evT {τ:Tab} {st:St} {a:Act} {w:World} {I:Nat→Prop} {F:List G} (he:EnvOk st.env a w I F) (t:TypeId) (x:Operand):Rl w.heap I F (st.evT τ t x) true [a.eval x]:=by
 unfold St.evT
 split
 ·split
  ·exact rfl
  ·exact ⟨rfl,rfl⟩
 ·exact he.ev x
end Go.Vc

/- The operations that touch no memory: what must hold ahead of each, and that it then yields what is said, in whatever world. -/
namespace Go.Vc
set_option linter.all false
open T (hdr blk)
def BoolK (K:AV→Prop) (b:Bool):Prop:=K (.val (.bool b))
def bitAnd (k:IntKind) (m n:Int):Int:=k.wrap ((BitVec.ofInt k.bits m &&& BitVec.ofInt k.bits n).toNat)
def intVc (op:BinOp) (k k':IntKind) (m n:Int) (K:AV→Prop):Prop :=
 match op with
 | .add=>k = k'∧K (.val (.int k (k.wrap (m + n))))
 | .sub=>k = k'∧K (.val (.int k (k.wrap (m - n))))
 | .mul=>k = k'∧K (.val (.int k (k.wrap (m * n))))
 | .quo=>k = k'∧n≠0∧K (.val (.int k (k.wrap (m.tdiv n))))
 | .rem=>k = k'∧n≠0∧K (.val (.int k (m.tmod n)))
 | .shr=>0≤n∧n≤k.bits∧K (.val (.int k (m / 2 ^ n.toNat)))
 | .eql=>k = k'∧BoolK K (decide (m = n))
 | .neq=>k = k'∧BoolK K (decide (m≠n))
 | .lss=>k = k'∧BoolK K (decide (m < n))
 | .leq=>k = k'∧BoolK K (decide (m≤n))
 | .gtr=>k = k'∧BoolK K (decide (n < m))
 | .geq=>k = k'∧BoolK K (decide (n≤m))
 | .and=>k = k'∧K (.val (.int k (bitAnd k m n)))
 | _=>False
def sLess (s u:ByteArray):Bool:=Op.bytesLess s.toList u.toList
def strVc (op:BinOp) (s u:ByteArray) (K:AV→Prop):Prop :=
 match op with
 | .eql=>BoolK K (decide (s = u))
 | .neq=>BoolK K (decide (s≠u))
 | .lss=>BoolK K (sLess s u)
 | .leq=>BoolK K (sLess s u || decide (s = u))
 | .gtr=>BoolK K (!(sLess s u || decide (s = u)))
 | .geq=>BoolK K (!(sLess s u))
 | .add=>s.size + u.size≤2 ^ 63 - 1∧K (.val (.string (s ++ u)))
 | _=>False
def eqVc (op:BinOp) (b:Bool) (K:AV→Prop):Prop :=
 match op with
 | .eql=>BoolK K b
 | .neq=>BoolK K (!b)
 | _=>False
def binVc (τ:Tab) (op:BinOp) (t:TypeId) (x y:AV) (K:AV→Prop):Prop :=
 match x,y with
 | .val (.int k m),.val (.int k' n)=>intVc op k k' m n K
 | .val (.string s),.val (.string u)=>strVc op s u K
 | .val (.bool p),.val (.bool q)=>(τ t).bool = true∧eqVc op (p == q) K
 | .val (.pointer none),.val (.pointer none)=>(τ t).ptr = true∧eqVc op true K
 | .ptr _ _,.val (.pointer none)=>(τ t).ptr = true∧eqVc op false K
 | .iptr _,.val (.pointer none)=>(τ t).ptr = true∧eqVc op false K
 | .nils _,.val (.slice none 0 0)=>(τ t).sl.isSome = true∧eqVc op true K
 | .imm _ s _,.val (.slice none 0 0)=>(τ t).sl.isSome = true∧∀ b,(s.len≠0→b = false)→eqVc op b K
 | .sub _ _ _ n _,.val (.slice none 0 0)=>(τ t).sl.isSome = true∧∀ b,(n≠0→b = false)→eqVc op b K
 | .mp _ _,.val (.map none)=>(τ t).mp.isSome = true∧eqVc op false K
 | .val (.map none),.val (.map none)=>(τ t).mp.isSome = true∧eqVc op true K
 | _,_=>False
theorem toList_beq (s u:ByteArray):(s.toList == u.toList) = decide (s = u):=by
 rw [Bool.eq_iff_iff,beq_iff_eq,decide_eq_true_iff]
 refine ⟨fun h=>?_,fun h=>by rw [h]⟩
 rw [Go.ByteArray.toList_eq,Go.ByteArray.toList_eq] at h
 cases s;cases u
 congr 1
 exact Array.toList_inj.1 h
namespace T
def esz {α:Type}:T α→Nat
 | .sl _ _ z _=>z
 | _=>0
end T
def fieldVc (τ:Tab) (t:TypeId) (d:D) (i:Nat):Prop :=
 match d with
 | .agg s=>i < s.len∧((τ t).st.bind fun l=>(l[i]?).map (·.1)) = some (s.offs i)
 | _=>False
def arrVc (τ:Tab) (t:TypeId) (d:D) (i:Int):Prop :=
 match d with
 | .agg s=>(0≤i∧i < (s.len:Int))∧((τ t).ar.bind fun a=>if a.1 = s.len then some (i.toNat * a.2) else none) = some (s.offs i.toNat)
 | _=>False
def lenVc (τ:Tab) (st:St) (c:Call) (K:AV→Prop):Prop :=
 match c.callee,c.args.toList,c.argTypes.toList with
 | .builtin .len,[x],[t]=>match st.ev x with
  | .sub _ _ _ n _=>(τ t).sl.isSome = true∧K (.val (.int .i64 (n:Int)))
  | .imm _ s _=>(τ t).sl.isSome = true∧K (.val (.int .i64 (s.len:Int)))
  | .nils _=>(τ t).sl.isSome = true∧K (.val (.int .i64 0))
  | .cut n=>(τ t).sl.isSome = true∧K (.val (.int .i64 (n:Int)))
  | .val (.string s)=>(τ t).str = true∧K (.val (.int .i64 (s.size:Int)))
  | _=>False
 | .builtin .cap,[x],[t]=>match st.ev x with
  | .nils _=>(τ t).sl.isSome = true∧K (.val (.int .i64 0))
  | _=>False
 | .builtin .min,[x,y],_=>match st.ev x,st.ev y with
  | .val (.int k n),.val (.int k' m)=>k = k'∧K (.val (.int k (if m < n then m else n)))
  | _,_=>False
 | .builtin .max,[x,y],_=>match st.ev x,st.ev y with
  | .val (.int k n),.val (.int k' m)=>k = k'∧K (.val (.int k (if n < m then m else n)))
  | _,_=>False
 | _,_,_=>False
def seqOf (st:St):List Operand→AV
 | x :: xs=>.cons (st.ev x) (seqOf st xs)
 | []=>.nil
theorem seqOf_rl {st:St} {a:Act} {w:World} {I:Nat→Prop} {F:List G} (he:EnvOk st.env a w I F):∀ (xs:List Operand),Rl w.heap I F (seqOf st xs) true (xs.map a.eval)
 | []=>rfl
 | x :: xs=>⟨_,_,rfl,he.ev x,seqOf_rl he xs⟩
def pureVc (τ:Tab) (o:Op) (ty:TypeId) (st:St) (K:AV→Prop):Prop :=
 match o with
 | .move x=>K (st.evT τ ty x)
 | .assign x=>K (st.evT τ ty x)
 | .pick c a b=>match st.ev c with
  | .val (.bool t)=>(t = true→K (st.evT τ ty a))∧(t = false→K (st.evT τ ty b))
  | _=>False
 | .nilCheck x=>match st.ev x with
  | .ptr k q=>K (.ptr k q)
  | .iptr d=>K (.iptr d)
  | .fn f s=>K (.fn f s)
  | .mp k q=>K (.mp k q)
  | _=>False
 | .binOp op t x y _=>binVc τ op t (st.ev x) (st.ev y) K
 | .unOp op _ x=>match op,st.ev x with
  | .not,.val (.bool b)=>BoolK K (!b)
  | .neg,.val (.int k n)=>K (.val (.int k (k.wrap (0 - n))))
  | _,_=>False
 | .convert src dst x=>match (τ src).int,(τ dst).int,st.ev x with
  | some _,some k,.val (.int _ n)=>K (.val (.int k (k.wrap n)))
  | _,_,_=>False
 | .fieldAddr t x i=>match st.ev x with
  | .ptr k q=>fieldVc τ t ((st.tree k).at_ q) i∧K (.ptr k (q ++ [.f i]))
  | .iptr d=>fieldVc τ t d i∧K (.iptr (d.at_ [.f i]))
  | _=>False
 | .indexAddr t x ix=>match st.ev x,st.ev ix with
  | .sub k q lo n _,.val (.int _ i)=>((τ t).sl.map fun y=>y.2.1) = some ((st.tree k).at_ q).esz∧(0≤i∧i < (n:Int))∧K (.ptr k (q ++ [.i (lo + i.toNat)]))
  | .imm z s _,.val (.int _ i)=>((τ t).sl.map fun y=>y.2.1) = some z∧(0≤i∧i < (s.len:Int))∧K (.iptr (s.nth i.toNat))
  | .ptr k q,.val (.int _ i)=>arrVc τ t ((st.tree k).at_ q) i∧K (.ptr k (q ++ [.f i.toNat]))
  | .iptr d,.val (.int _ i)=>arrVc τ t d i∧K (.iptr (d.at_ [.f i.toNat]))
  | _,_=>False
 | .index t x ix=>match st.ev x,st.ev ix with
  | .agg s,.val (.int _ i)=>(τ t).ae = true∧((0≤i∧i < (s.len:Int))∧((τ t).ar.bind fun a=>if a.1 = s.len then some (i.toNat * a.2) else none) = some (s.offs i.toNat))∧(s.nth i.toNat).isOne = true∧K (s.nth i.toNat)
  | _,_=>False
 | .extract x i=>match st.ev x with
  | .tup (.cons a t)=>i < (AV.cons a t).len∧K ((AV.cons a t).nth i)
  | _=>False
 | .call c=>lenVc τ st c K
 | .makeFunc f a b=>match f with
  | .func f=>a = #[]∧K (.fn f (seqOf st b.toList))
  | _=>False
 | _=>False
theorem run_eqlBool {P:Program} {τ:Tab} (hτ:Tab.Ok P τ) {t:TypeId} (ht:(τ t).bool = true) (p q:Bool) (w:World):(Op.equal t (.bool p) (.bool q)).run P w = .ok (p == q) w:=by
 have hu:=(hτ t).bool ht
 have key:∀ d,(Op.equalIn (d + 1) t (.bool p) (.bool q)).run P w = .ok (p == q) w:=fun d=>by
  simp [Op.equalIn,run_underlying hu]
 exact key 9999
theorem run_eqlPtr {P:Program} {τ:Tab} (hτ:Tab.Ok P τ) {t:TypeId} (ht:(τ t).ptr = true) (a b:Option Addr) (h:a = none∨b = none) (w:World) :
  (Op.equal t (.pointer a) (.pointer b)).run P w = .ok (a.isNone && b.isNone) w:=by
 obtain ⟨e,he⟩:=(hτ t).ptr ht
 have key:∀ d,(Op.equalIn (d + 1) t (.pointer a) (.pointer b)).run P w = .ok (a.isNone && b.isNone) w:=fun d=>by
  cases a <;> cases b <;> first | (simp at h;done) | simp [Op.equalIn,run_underlying he]
 exact key 9999
theorem run_eqlSl {P:Program} {τ:Tab} (hτ:Tab.Ok P τ) {t:TypeId} (ht:(τ t).sl.isSome = true) (a:Option Addr) (n c:Nat) (w:World) :
  (Op.equal t (.slice a n c) (.slice none 0 0)).run P w = .ok a.isNone w:=by
 cases hs:(τ t).sl with
 | none=>rw [hs] at ht;cases ht
 | some y =>
  obtain ⟨e,z,by_,zv⟩:=y
  obtain ⟨hu,_⟩:=(hτ t).sl _ _ _ _ hs
  have key:∀ d,(Op.equalIn (d + 1) t (.slice a n c) (.slice none 0 0)).run P w = .ok a.isNone w:=fun d=>by
   cases a <;> simp [Op.equalIn,run_underlying hu]
  exact key 9999
theorem run_eqlMap {P:Program} {τ:Tab} (hτ:Tab.Ok P τ) {t:TypeId} (ht:(τ t).mp.isSome = true) (a:Option Nat) (w:World) :
  (Op.equal t (.map a) (.map none)).run P w = .ok a.isNone w:=by
 cases hs:(τ t).mp with
 | none=>rw [hs] at ht;cases ht
 | some y =>
  obtain ⟨e,kd⟩:=y
  obtain ⟨k,hu,_⟩:=(hτ t).mp _ _ hs
  have key:∀ d,(Op.equalIn (d + 1) t (.map a) (.map none)).run P w = .ok a.isNone w:=fun d=>by
   cases a <;> simp [Op.equalIn,run_underlying hu]
  exact key 9999
theorem bin_ok {P:Program} {τ:Tab} (hτ:Tab.Ok P τ) {op:BinOp} {t:TypeId} {x y:AV} {X Y:Operand} {a b:Value} {K:AV→Prop} {h:Array Obj} {I:Nat→Prop} {F:List G}
  (hx:Rl h I F x true [a]) (hy:Rl h I F y true [b]) (hv:binVc τ op t x y K) :
  ∃ v,K (.val v)∧v.oneCell' = true∧∀ w,(do eqGuard op t X Y a b;binOp op t a b:Sem Value).run P w = .ok v w:=by
 unfold binVc at hv
 split at hv
 · -- ints
  obtain ⟨hx,_⟩:=hx
  obtain ⟨hy,_⟩:=hy
  cases hx;cases hy
  unfold intVc BoolK at hv
  split at hv
  ·obtain ⟨rfl,hv⟩:=hv;exact ⟨_,hv,rfl,fun w=>by simp [eqGuard,binOp,Op.intArith]⟩
  ·obtain ⟨rfl,hv⟩:=hv;exact ⟨_,hv,rfl,fun w=>by simp [eqGuard,binOp,Op.intArith]⟩
  ·obtain ⟨rfl,hv⟩:=hv;exact ⟨_,hv,rfl,fun w=>by simp [eqGuard,binOp,Op.intArith]⟩
  ·obtain ⟨rfl,hn,hv⟩:=hv;exact ⟨_,hv,rfl,fun w=>by simp [eqGuard,binOp,Op.intDiv,hn]⟩
  ·obtain ⟨rfl,hn,hv⟩:=hv;exact ⟨_,hv,rfl,fun w=>by simp [eqGuard,binOp,Op.intDiv,hn]⟩
  ·obtain ⟨h0,h1,hv⟩:=hv;exact ⟨_,hv,rfl,fun w=>by simp [eqGuard,binOp,shift_shr _ _ _ _ h0 h1]⟩
  ·obtain ⟨rfl,hv⟩:=hv;exact ⟨_,hv,rfl,fun w=>by simp [eqGuard,binOp,Op.intCmp];rfl⟩
  ·obtain ⟨rfl,hv⟩:=hv;exact ⟨_,hv,rfl,fun w=>by simp [eqGuard,binOp,Op.intCmp];rfl⟩
  ·obtain ⟨rfl,hv⟩:=hv;exact ⟨_,hv,rfl,fun w=>by simp [eqGuard,binOp,Op.intCmp]⟩
  ·obtain ⟨rfl,hv⟩:=hv;exact ⟨_,hv,rfl,fun w=>by simp [eqGuard,binOp,Op.intCmp]⟩
  ·obtain ⟨rfl,hv⟩:=hv;exact ⟨_,hv,rfl,fun w=>by simp [eqGuard,binOp,Op.intCmp]⟩
  ·obtain ⟨rfl,hv⟩:=hv;exact ⟨_,hv,rfl,fun w=>by simp [eqGuard,binOp,Op.intCmp]⟩
  ·obtain ⟨rfl,hv⟩:=hv;exact ⟨_,hv,rfl,fun w=>by simp [eqGuard,binOp,Op.intBits,bitAnd]⟩
  ·exact hv.elim
 · -- strings
  obtain ⟨hx,_⟩:=hx
  obtain ⟨hy,_⟩:=hy
  cases hx;cases hy
  rename_i s u _ _
  have e1:=toList_beq s u
  unfold strVc BoolK sLess at hv
  split at hv
  ·exact ⟨_,hv,rfl,fun w=>by simp only [eqGuard,binOp,Op.stringOp,e1];simp⟩
  ·exact ⟨_,hv,rfl,fun w=>by simp only [eqGuard,binOp,Op.stringOp,e1];simp⟩
  ·exact ⟨_,hv,rfl,fun w=>by simp only [eqGuard,binOp,Op.stringOp,e1];simp⟩
  ·exact ⟨_,hv,rfl,fun w=>by simp only [eqGuard,binOp,Op.stringOp,e1];simp⟩
  ·exact ⟨_,hv,rfl,fun w=>by simp only [eqGuard,binOp,Op.stringOp,e1];simp⟩
  ·exact ⟨_,hv,rfl,fun w=>by simp only [eqGuard,binOp,Op.stringOp,e1];simp⟩
  ·obtain ⟨hs,hv⟩:=hv
   refine ⟨_,hv,rfl,fun w=>?_⟩
   have:¬ (((s.size + u.size:Nat):Int) > IntKind.i64.max):=by
    have:IntKind.i64.max = 2 ^ 63 - 1:=rfl
    rw [this];omega
   simp only [eqGuard,binOp,Op.stringOp,this];simp
  ·exact hv.elim
 · -- bools
  obtain ⟨hx,_⟩:=hx
  obtain ⟨hy,_⟩:=hy
  cases hx;cases hy
  obtain ⟨ht,hv⟩:=hv
  unfold eqVc BoolK at hv
  split at hv
  ·exact ⟨_,hv,rfl,fun w=>by simp [eqGuard,binOp,run_eqlBool hτ ht]⟩
  ·exact ⟨_,hv,rfl,fun w=>by simp [eqGuard,binOp,run_eqlBool hτ ht]⟩
  ·exact hv.elim
 ·obtain ⟨hx,_⟩:=hx
  obtain ⟨hy,_⟩:=hy
  cases hx;cases hy
  obtain ⟨ht,hv⟩:=hv
  unfold eqVc BoolK at hv
  split at hv
  ·exact ⟨_,hv,rfl,fun w=>by simp [eqGuard,binOp,run_eqlPtr hτ ht]⟩
  ·exact ⟨_,hv,rfl,fun w=>by simp [eqGuard,binOp,run_eqlPtr hτ ht]⟩
  ·exact hv.elim
 ·obtain ⟨b',o',_,hx⟩:=hx
  obtain ⟨hy,_⟩:=hy
  cases hx;cases hy
  obtain ⟨ht,hv⟩:=hv
  unfold eqVc BoolK at hv
  split at hv
  ·exact ⟨_,hv,rfl,fun w=>by simp [eqGuard,binOp,run_eqlPtr hτ ht]⟩
  ·exact ⟨_,hv,rfl,fun w=>by simp [eqGuard,binOp,run_eqlPtr hτ ht]⟩
  ·exact hv.elim
 ·obtain ⟨v',hx,g,xx,_,_,_,rfl,_⟩:=hx
  obtain ⟨hy,_⟩:=hy
  cases hx;cases hy
  obtain ⟨ht,hv⟩:=hv
  unfold eqVc BoolK at hv
  split at hv
  ·exact ⟨_,hv,rfl,fun w=>by simp [eqGuard,binOp,run_eqlPtr hτ ht]⟩
  ·exact ⟨_,hv,rfl,fun w=>by simp [eqGuard,binOp,run_eqlPtr hτ ht]⟩
  ·exact hv.elim
 ·obtain ⟨hy,_⟩:=hy
  cases hx;cases hy
  obtain ⟨ht,hv⟩:=hv
  unfold eqVc BoolK at hv
  split at hv
  ·exact ⟨_,hv,rfl,fun w=>by simp [eqGuard,binOp,run_eqlSl hτ ht]⟩
  ·exact ⟨_,hv,rfl,fun w=>by simp [eqGuard,binOp,run_eqlSl hτ ht]⟩
  ·exact hv.elim
 ·obtain ⟨v',hx,s',hs,hh,_⟩:=hx
  obtain ⟨hy,_⟩:=hy
  cases hx;cases hy
  obtain ⟨ht,hv⟩:=hv
  subst hs
  obtain ⟨A,n,c,rfl⟩:∃ A n c,a = .slice A n c:=by
   have h5:=hh.2.2.2
   split at h5 <;> first | exact ⟨_,_,_,rfl⟩ | exact h5.elim
  have hA:s'.erase.len≠0→A.isNone = false:=fun hl=>by
   obtain ⟨h1,h2,_,h4,_⟩:=slice_cells rfl (w:={ heap:=h,tape:=fun _ _=>0,drawn:=0,os:=default,output:=#[] }) hh
   rw [T.erase_len] at hl
   cases A with
   | none=>have:=h4 rfl;omega
   | some _=>rfl
  have hv:=hv A.isNone hA
  unfold eqVc BoolK at hv
  split at hv
  ·exact ⟨_,hv,rfl,fun w=>by simp [eqGuard,binOp,run_eqlSl hτ ht]⟩
  ·exact ⟨_,hv,rfl,fun w=>by simp [eqGuard,binOp,run_eqlSl hτ ht]⟩
  ·exact hv.elim
 ·obtain ⟨own,a0,z0,len0,v',_,hx,hs⟩:=hx
  obtain ⟨hy,_⟩:=hy
  cases hx;cases hy
  obtain ⟨ht,hv⟩:=hv
  obtain ⟨A,c,rfl,h1,h2,h3,_,h4⟩:=hs
  have hv:=hv A.isNone (by
   intro hl
   split at h4
   ·obtain ⟨rfl,rfl⟩:=h4;omega
   ·obtain ⟨y,rfl,_⟩:=h4;rfl
   ·exact h4.elim)
  unfold eqVc BoolK at hv
  split at hv
  ·exact ⟨_,hv,rfl,fun w=>by simp [eqGuard,binOp,run_eqlSl hτ ht]⟩
  ·exact ⟨_,hv,rfl,fun w=>by simp [eqGuard,binOp,run_eqlSl hτ ht]⟩
  ·exact hv.elim
 ·obtain ⟨own,r,z0,len0,_,hx⟩:=hx
  obtain ⟨hy,_⟩:=hy
  cases hx;cases hy
  obtain ⟨ht,hv⟩:=hv
  unfold eqVc BoolK at hv
  split at hv
  ·exact ⟨_,hv,rfl,fun w=>by simp [eqGuard,binOp,run_eqlMap hτ ht]⟩
  ·exact ⟨_,hv,rfl,fun w=>by simp [eqGuard,binOp,run_eqlMap hτ ht]⟩
  ·exact hv.elim
 ·obtain ⟨hx,_⟩:=hx
  obtain ⟨hy,_⟩:=hy
  cases hx;cases hy
  obtain ⟨ht,hv⟩:=hv
  unfold eqVc BoolK at hv
  split at hv
  ·exact ⟨_,hv,rfl,fun w=>by simp [eqGuard,binOp,run_eqlMap hτ ht]⟩
  ·exact ⟨_,hv,rfl,fun w=>by simp [eqGuard,binOp,run_eqlMap hτ ht]⟩
  ·exact hv.elim
 ·exact hv.elim
end Go.Vc

/- The operations that touch no memory hold what they promise. -/
namespace Go.Vc
set_option linter.all false
open T (hdr blk)
namespace T
theorem loc_deep {g:G} {q r:Path} {b o:Nat} (h:(g.at_ q).loc r = some (.abs b o)):g.loc (q ++ r) = some (.abs b o):=by
 have nilloc:∀ {r:Path} {b o},¬ (T.nil:G).loc r = some (.abs b o):=by
  intro r b o h
  cases r with
  | nil=>simp [loc] at h
  | cons st r=>cases st <;> simp [loc] at h
 induction q generalizing g with
 | nil=>exact h
 | cons st q ih =>
  have key:∀ (s:G) (i:Nat),((s.nth i).at_ q).loc r = some (.abs b o)→i < s.len:=by
   intro s i hh
   rcases Nat.lt_or_ge i s.len with h' | h'
   ·exact h'
   ·rw [nth_ge h'] at hh
    have:∀ q:Path,(T.nil:G).at_ q = .nil:=fun q=>by
     cases q with
     | nil=>rfl
     | cons st q=>cases st <;> rfl
    rw [this] at hh
    exact absurd hh nilloc
  cases g <;> cases st <;> simp only [T.at_] at h <;> try exact absurd h nilloc
  case agg.f s i=>simp only [List.cons_append,loc,if_pos (key s i h),ih h]
  case sl.i own a z s i=>simp only [List.cons_append,loc,if_pos (key s i h),ih h]
  case box.d own a g=>simp only [List.cons_append,loc,ih h]
  case map.i own a s i=>simp only [List.cons_append,loc,if_pos (key s i h),ih h]
end T
theorem addr_add (b o n:Nat):(⟨b,o,none⟩:Addr).add n = ⟨b,o + n,none⟩:=by unfold Addr.add;split <;> simp_all
theorem run_v {P:Program} {s:Sem Value} {v:Value} {w w':World} (h:s.run P w = .ok v w'):(do pure (.value (←s)):Sem Next).run P w = .ok (.value v) w':=by
 rw [Sem.run_bind,h];rfl
theorem Inv.tree {c:Cx} {st:St} {w:World} {I:Nat→Prop} {F:List G} (hi:Inv c st.X st.κ w I F) {k:Nat} {g:G} (hg:F[k]? = some g):st.tree k = g.erase:=by
 unfold St.tree
 rw [←hi.erase,List.getD_eq_getElem?_getD,List.getElem?_map,hg];rfl
theorem field_run {P:Program} {τ:Tab} (hτ:Tab.Ok P τ) {t:TypeId} {i:Nat} {s:D} (hf:((τ t).st.bind fun l=>(l[i]?).map (·.1)) = some (s.offs i)) (b o:Nat) (w:World) :
  (Instr.fieldAt t (.pointer (some ⟨b,o,none⟩)) i).run P w = .ok (.pointer (some ⟨b,o + s.offs i,none⟩)) w:=by
 cases hl:(τ t).st with
 | none=>rw [hl] at hf;simp at hf
 | some l =>
  rw [hl] at hf
  simp only [Option.bind_some,Option.map_eq_some_iff] at hf
  obtain ⟨x,hx,hx2⟩:=hf
  obtain ⟨fs,h1,h2,h3,h4⟩:=(hτ t).st l hl
  rw [←h2,List.getElem?_map] at hx
  cases hfi:fs.toList[i]? with
  | none=>rw [hfi] at hx;cases hx
  | some f =>
   rw [hfi] at hx
   simp only [Option.map_some,Option.some.injEq] at hx
   have hfa:fs[i]? = some f:=by rw [←Array.getElem?_toList];exact hfi
   have hfm:f∈fs.toList:=List.mem_of_getElem? hfi
   have hsome:=h3 f hfm
   rw [Option.isSome_iff_exists] at hsome
   obtain ⟨inf,hinf⟩:=hsome
   have hne:inf.size≠0:=by
    have:=List.all_eq_true.1 h4 (f.offset,P.cellsOf f.type) (by rw [←h2];exact List.mem_map_of_mem hfm)
    simpa [Program.cellsOf,hinf] using this
   have hoff:f.offset = s.offs i:=by rw [←hx2,←hx]
   simp [Instr.fieldAt,run_underlying h1,hfa,Instr.sureAddr,fieldPlace,sizeOf,typeInfo,hinf,hne,addr_add,hoff]
theorem arr_run {P:Program} {τ:Tab} (hτ:Tab.Ok P τ) {t:TypeId} {i:Int} {len off:Nat} (h0:0≤i) (hl:i < (len:Int)) (hf:((τ t).ar.bind fun a=>if a.1 = len then some (i.toNat * a.2) else none) = some off) (kk:IntKind) (b o:Nat) (w:World) :
  (Instr.indexAt t (.pointer (some ⟨b,o,none⟩)) (.int kk i)).run P w = .ok (.pointer (some ⟨b,o + off,none⟩)) w:=by
 cases ha:(τ t).ar with
 | none=>rw [ha] at hf;simp at hf
 | some a =>
  rw [ha] at hf
  obtain ⟨n,z⟩:=a
  simp only [Option.bind_some] at hf
  split at hf
  case isFalse=>cases hf
  rename_i hn
  subst hn
  simp only [Option.some.injEq] at hf
  obtain ⟨e,u1,inf,u2,u3⟩:=(hτ t).ar _ _ ha
  simp [Instr.indexAt,asIntOf,run_underlying u1,Instr.sureAddr,h0,hl,sizeOf,typeInfo,u2,u3,addr_add,hf]
theorem Iptr_part {h:Array Obj} {I:Nat→Prop} {s:D} {i:Nat} (hi:i < s.len) {v:Value} (H:IptrRel h I (.agg s) v) :
  ∃ b o,v = .pointer (some ⟨b,o,none⟩)∧IptrRel h I (s.nth i) (.pointer (some ⟨b,o + s.offs i,none⟩)):=by
 obtain ⟨g,x,h1,h2,h3,rfl,h5,h6,row,e,fr,h7,h8⟩:=H
 obtain ⟨xb,xo,xs⟩:=x
 simp only at h5
 subst h5
 cases g <;> simp only [T.erase] at h1 <;> try cases h1
 rename_i s'
 refine ⟨xb,xo,rfl,s'.nth i,_,T.erase_nth s' i,T.Holds.nth (s:=s') h2 i,T.free_nth (s:=s') h3 i,rfl,rfl,h6,row,e,fr,h7,fun j u hu=>?_⟩
 rw [T.erase_len] at hi
 have h9:=T.cells_nth hi hu
 have h10:=h8 _ _ h9
 have hoffs:∀ (s:G) k,s.erase.offs k = s.offs k:=by
  intro s
  induction s with
  | cons a t _ iht=>intro k;cases k with
   | zero=>rfl
   | succ k=>simp [T.erase,T.offs,T.erase_width,iht]
  | _=>intro k;cases k <;> rfl
 rw [hoffs]
 rw [←h10];congr 1;simp only;omega
theorem Imm_part {h:Array Obj} {I:Nat→Prop} {z:Nat} {s:D} {ex:Bool} {i:Nat} (hi:i < s.len) {v:Value} (H:ImmRel h I z s ex v) :
  ∃ b o n c,v = .slice (some ⟨b,o,none⟩) n c∧n = s.len∧IptrRel h I (s.nth i) (.pointer (some ⟨b,o + i * z,none⟩)):=by
 obtain ⟨s',h1,h2,h3⟩:=H
 obtain ⟨H1,H2,H3,H4⟩:=h2
 subst h1
 rw [T.erase_len] at hi
 split at H4
 ·omega
 ·omega
 ·rename_i x n c
  obtain ⟨g1,g2,g3,g4,g5,row,e,fr,g6,gf,g7,g8⟩:=H4
  obtain ⟨xb,xo,xs⟩:=x
  simp only at g1
  subst g1
  refine ⟨xb,xo,n,c + 1,rfl,by rw [T.erase_len];exact g2,s'.nth i,_,T.erase_nth s' i,H1.nth i,T.free_nth (H3 rfl) i,rfl,rfl,g5 rfl,row,e,fr,g6,fun j u hu=>?_⟩
  have h9:=T.cells_nth hi hu
  rw [T.uni_offs H2 (Nat.le_of_lt hi)] at h9
  rw [←g8 _ _ h9];congr 1;simp only;omega
 ·exact H4.elim
theorem pure_ok {c:Cx} {τ:Tab} (hτ:Tab.Ok c.P τ) {st:St} {a:Act} {w:World} {I:Nat→Prop} {F:List G} (hi:Inv c st.X st.κ w I F) (he:EnvOk st.env a w I F) {o:Oper} {K:AV→Prop}
  (hv:pureVc τ o.op o.type st K):∃ av v,K av∧Rl w.heap I F av true [v]∧∀ w',(execOp a.eval o).run c.P w' = .ok (.value v) w':=by
 obtain ⟨dst,op,ty,pos,after,guard⟩:=o
 simp only at hv
 unfold pureVc at hv
 split at hv
 ·exact ⟨_,_,hv,he.evT _ _,fun w'=>rfl⟩
 ·exact ⟨_,_,hv,he.evT _ _,fun w'=>rfl⟩
 · -- pick
  rename_i cc x y
  split at hv
  ·rename_i t ht
   have hc:=he.ev cc
   rw [ht] at hc
   obtain ⟨h1,_⟩:=hc
   simp only [List.cons.injEq,and_true] at h1
   cases t with
   | true=>exact ⟨_,_,hv.1 rfl,he.evT _ _,fun w'=>by simp [execOp,h1,asBool]⟩
   | false=>exact ⟨_,_,hv.2 rfl,he.evT _ _,fun w'=>by simp [execOp,h1,asBool]⟩
  ·exact hv.elim
 · -- nilCheck
  rename_i x
  have hx:=he.ev x
  split at hv
  ·rename_i k q hk
   rw [hk] at hx
   obtain ⟨b,o,h1,h2⟩:=id hx
   simp only [List.cons.injEq,and_true] at h2
   exact ⟨_,_,hv,hx,fun w'=>by simp [execOp,h2]⟩
  ·rename_i d hk
   rw [hk] at hx
   obtain ⟨v,h1,g,xx,h2,h3,h4,h5,h6⟩:=id hx
   simp only [List.cons.injEq,and_true] at h1
   rw [h5] at h1
   exact ⟨_,_,hv,hx,fun w'=>by simp [execOp,h1]⟩
  ·rename_i f s hk
   rw [hk] at hx
   obtain ⟨l,h1,h2⟩:=id hx
   simp only [List.cons.injEq,and_true] at h1
   exact ⟨_,_,hv,hx,fun w'=>by simp [execOp,h1]⟩
  ·rename_i k q hk
   rw [hk] at hx
   obtain ⟨_,r,_,_,h1,h2⟩:=id hx
   simp only [List.cons.injEq,and_true] at h2
   exact ⟨_,_,hv,hx,fun w'=>by simp [execOp,h2]⟩
  ·exact hv.elim
 · -- binOp
  rename_i op t x y yt
  obtain ⟨v,h1,h2,h3⟩:=bin_ok hτ (he.ev x) (he.ev y) (X:=x) (Y:=y) hv
  exact ⟨.val v,v,h1,⟨rfl,h2⟩,fun w'=>run_v (h3 w')⟩
 · -- unOp
  rename_i op t x
  have hx:=he.ev x
  split at hv
  ·rename_i b hb
   rw [hb] at hx
   obtain ⟨h1,_⟩:=hx
   simp only [List.cons.injEq,and_true] at h1
   exact ⟨_,_,hv,⟨rfl,rfl⟩,fun w'=>by simp [execOp,h1,Op.unary]⟩
  ·rename_i k n hb
   rw [hb] at hx
   obtain ⟨h1,_⟩:=hx
   simp only [List.cons.injEq,and_true] at h1
   exact ⟨_,_,hv,⟨rfl,rfl⟩,fun w'=>by simp [execOp,h1,Op.unary,Op.intArith]⟩
  ·exact hv.elim
 · -- convert
  rename_i src dst' x
  have hx:=he.ev x
  split at hv
  ·rename_i k1 k2 k n h1 h2 h3
   rw [h3] at hx
   obtain ⟨h4,_⟩:=hx
   simp only [List.cons.injEq,and_true] at h4
   have u1:=(hτ src).int _ h1
   have u2:=(hτ dst').int _ h2
   exact ⟨_,_,hv,⟨rfl,rfl⟩,fun w'=>by simp [execOp,h4,convert,run_underlying u1,run_underlying u2,Conv.intToInt]⟩
  ·exact hv.elim
 · -- fieldAddr
  rename_i t x i
  have hx:=he.ev x
  split at hv
  ·rename_i k q hk
   rw [hk] at hx
   obtain ⟨b,o,h1,h2⟩:=hx
   simp only [List.cons.injEq,and_true] at h2
   obtain ⟨hf,hv⟩:=hv
   unfold locF at h1
   cases hg:F[k]? with
   | none=>rw [hg] at h1;simp at h1
   | some g =>
    rw [hg] at h1
    simp only [Option.bind_some] at h1
    rw [hi.tree hg] at hf
    unfold fieldVc at hf
    split at hf
    ·rename_i s hs
     obtain ⟨hlen,hf⟩:=hf
     refine ⟨_,.pointer (some ⟨b,o + s.offs i,none⟩),hv,⟨b,o + s.offs i,?_,rfl⟩,fun w'=>?_⟩
     ·simp only [locF,hg,Option.bind_some]
      rw [←T.erase_at] at hs
      cases hgq:g.at_ q with
      | agg s' =>
       rw [hgq] at hs
       simp only [T.erase,T.agg.injEq] at hs
       subst hs
       rw [T.erase_len] at hlen
       have hoffs:∀ (s:G) k,s.erase.offs k = s.offs k:=by
        intro s
        induction s with
        | cons a t _ iht=>intro k;cases k with
         | zero=>rfl
         | succ k=>simp [T.erase,T.offs,T.erase_width,iht]
        | _=>intro k;cases k <;> rfl
       rw [hoffs]
       have:=T.loc_append_rel (q:=[.f i]) (o:=s'.offs i) (by rw [hgq];simp [T.loc,hlen]) h1
       simpa [Loc.shift] using this
      | _=>rw [hgq] at hs;simp [T.erase] at hs
     ·simp only [execOp,h2]
      exact run_v (field_run hτ hf b o w')
    ·exact hf.elim
  ·rename_i d hk
   rw [hk] at hx
   obtain ⟨v,h1,hir⟩:=hx
   simp only [List.cons.injEq,and_true] at h1
   obtain ⟨hf,hv⟩:=hv
   unfold fieldVc at hf
   split at hf
   ·rename_i s
    obtain ⟨hlen,hf⟩:=hf
    obtain ⟨b,o,h3,h4⟩:=Iptr_part hlen hir
    refine ⟨_,.pointer (some ⟨b,o + s.offs i,none⟩),hv,⟨_,rfl,by simpa [T.at_] using h4⟩,fun w'=>?_⟩
    simp only [execOp,h1,h3]
    exact run_v (field_run hτ hf b o w')
   ·exact hf.elim
  ·exact hv.elim
 · -- indexAddr
  rename_i t x ix
  have hx:=he.ev x
  have hix:=he.ev ix
  split at hv
  ·rename_i k q lo n ex kk i h1 h2
   rw [h1] at hx
   rw [h2] at hix
   obtain ⟨own,a0,z0,len0,v,hh,h3,hs⟩:=hx
   obtain ⟨h4,_⟩:=hix
   simp only [List.cons.injEq,and_true] at h3 h4
   obtain ⟨hz,⟨hi0,hin⟩,hv⟩:=hv
   obtain ⟨A,cc,rfl,q1,q2,q3,q4,q5⟩:=hs
   unfold hdrF at hh
   cases hg:F[k]? with
   | none=>rw [hg] at hh;simp at hh
   | some g =>
    rw [hg] at hh
    simp only [Option.bind_some] at hh
    rw [hi.tree hg,←T.erase_at] at hz
    have hHg:=hi.holds g (List.mem_of_getElem? hg)
    have hHq:=hHg.at_ q
    split at q5
    ·omega
    ·rename_i xx nn cap
     obtain ⟨y,rfl,r1,r2,r3,r4,r5⟩:=q5
     obtain ⟨yb,yo,ys⟩:=y
     simp only at r1 r2 r5 r4
     subst r1
     cases hgq:g.at_ q with
     | sl o' a' z' s' =>
      rw [hgq] at hh hz hHq
      simp only [hdr,Option.some.injEq,Prod.mk.injEq] at hh
      obtain ⟨rfl,rfl,rfl,rfl⟩:=hh
      simp only [T.erase,T.esz] at hz
      cases hsl:(τ t).sl with
      | none=>rw [hsl] at hz;cases hz
      | some yy =>
       obtain ⟨e,zz,by_,zv⟩:=yy
       rw [hsl] at hz
       simp only [Option.map_some,Option.some.injEq] at hz
       subst hz
       obtain ⟨u1,inf,u2,u3,u4,u5,u6⟩:=(hτ t).sl _ _ _ _ hsl
       have hin':i.toNat < n:=by omega
       obtain ⟨cap,rfl⟩:∃ k,cap = k + 1:=⟨cap - 1,by omega⟩
       refine ⟨_,.pointer (some ⟨yb,yo + i.toNat * zz,none⟩),hv,⟨yb,yo + i.toNat * zz,?_,rfl⟩,fun w'=>?_⟩
       ·simp only [locF,hg,Option.bind_some]
        have hj:lo + i.toNat < s'.len:=by omega
        have:=r5 (by omega)
        refine T.loc_deep (q:=q) (r:=[.i (lo + i.toNat)]) ?_
        rw [hgq]
        simp only [T.loc,hj,if_true,T.headAt,r2,Option.some.injEq,Loc.abs.injEq]
        refine ⟨trivial,?_⟩
        rw [this,Nat.add_mul];omega
       ·simp only [execOp,h3,h4]
        refine run_v ?_
        simp [Instr.indexAt,asIntOf,run_underlying u1,hi0,hin,sizeOf,typeInfo,u2,u4,addr_add]
     | box o' a' g' =>
      exfalso
      rw [hgq] at hh hHq
      simp only [hdr,Option.some.injEq,Prod.mk.injEq] at hh
      obtain ⟨rfl,rfl,rfl,rfl⟩:=hh
      exact hHq.2.2
     | map o' a' s' =>
      exfalso
      rw [hgq] at hh hHq
      simp only [hdr,Option.some.injEq,Prod.mk.injEq] at hh
      obtain ⟨rfl,rfl,rfl,rfl⟩:=hh
      exact hHq.2.2
     | _=>rw [hgq] at hh;simp [hdr] at hh
    ·exact q5.elim
  ·rename_i z s ex kk i h1 h2
   rw [h1] at hx
   rw [h2] at hix
   obtain ⟨v,h3,him⟩:=hx
   obtain ⟨h4,_⟩:=hix
   simp only [List.cons.injEq,and_true] at h3 h4
   obtain ⟨hz,⟨hi0,hin⟩,hv⟩:=hv
   obtain ⟨b,o,n,cc,h5,h6,h7⟩:=Imm_part (i:=i.toNat) (by omega) him
   cases hsl:(τ t).sl with
   | none=>rw [hsl] at hz;cases hz
   | some yy =>
    obtain ⟨e,zz,by_,zv⟩:=yy
    rw [hsl] at hz
    simp only [Option.map_some,Option.some.injEq] at hz
    subst hz
    obtain ⟨u1,inf,u2,u3,u4,u5,u6⟩:=(hτ t).sl _ _ _ _ hsl
    refine ⟨_,_,hv,⟨_,rfl,h7⟩,fun w'=>?_⟩
    have hin':i < (n:Int):=by omega
    simp only [execOp,h3,h4,h5]
    refine run_v ?_
    simp [Instr.indexAt,asIntOf,run_underlying u1,hi0,hin',sizeOf,typeInfo,u2,u4,addr_add]
  ·rename_i k q kk i hk h2
   rw [hk] at hx
   rw [h2] at hix
   obtain ⟨b,o,h1,h3⟩:=hx
   obtain ⟨h4,_⟩:=hix
   simp only [List.cons.injEq,and_true] at h3 h4
   obtain ⟨hf,hv⟩:=hv
   unfold locF at h1
   cases hg:F[k]? with
   | none=>rw [hg] at h1;simp at h1
   | some g =>
    rw [hg] at h1
    simp only [Option.bind_some] at h1
    rw [hi.tree hg] at hf
    unfold arrVc at hf
    split at hf
    ·rename_i s hs
     obtain ⟨⟨hi0,hil⟩,hf⟩:=hf
     refine ⟨_,.pointer (some ⟨b,o + s.offs i.toNat,none⟩),hv,⟨b,o + s.offs i.toNat,?_,rfl⟩,fun w'=>?_⟩
     ·simp only [locF,hg,Option.bind_some]
      rw [←T.erase_at] at hs
      cases hgq:g.at_ q with
      | agg s' =>
       rw [hgq] at hs
       simp only [T.erase,T.agg.injEq] at hs
       subst hs
       rw [T.erase_len] at hil
       have hoffs:∀ (s:G) k,s.erase.offs k = s.offs k:=by
        intro s
        induction s with
        | cons a t _ iht=>intro k;cases k with
         | zero=>rfl
         | succ k=>simp [T.erase,T.offs,T.erase_width,iht]
        | _=>intro k;cases k <;> rfl
       rw [hoffs]
       have hlen:i.toNat < s'.len:=by omega
       have:=T.loc_append_rel (q:=[.f i.toNat]) (o:=s'.offs i.toNat) (by rw [hgq];simp [T.loc,hlen]) h1
       simpa [Loc.shift] using this
      | _=>rw [hgq] at hs;simp [T.erase] at hs
     ·simp only [execOp,h3,h4]
      exact run_v (arr_run hτ hi0 hil hf _ b o w')
    ·exact hf.elim
  ·rename_i d kk i hk h2
   rw [hk] at hx
   rw [h2] at hix
   obtain ⟨v,h1,hir⟩:=hx
   obtain ⟨h4,_⟩:=hix
   simp only [List.cons.injEq,and_true] at h1 h4
   obtain ⟨hf,hv⟩:=hv
   unfold arrVc at hf
   split at hf
   ·rename_i s
    obtain ⟨⟨hi0,hil⟩,hf⟩:=hf
    obtain ⟨b,o,h3,h5⟩:=Iptr_part (i:=i.toNat) (by omega) hir
    refine ⟨_,.pointer (some ⟨b,o + s.offs i.toNat,none⟩),hv,⟨_,rfl,by simpa [T.at_] using h5⟩,fun w'=>?_⟩
    simp only [execOp,h1,h3,h4]
    exact run_v (arr_run hτ hi0 hil hf _ b o w')
   ·exact hf.elim
  ·exact hv.elim
 · -- index
  rename_i t x ix
  have hx:=he.ev x
  have hix:=he.ev ix
  split at hv
  ·rename_i s kk i h1 h2
   rw [h1] at hx
   rw [h2] at hix
   obtain ⟨cs,h3,hs⟩:=hx
   obtain ⟨h4,_⟩:=hix
   simp only [List.cons.injEq,and_true] at h3 h4
   obtain ⟨hae,⟨⟨hi0,hil⟩,hf⟩,hone,hv⟩:=hv
   have hlen:i.toNat < s.len:=by omega
   obtain ⟨v,h5,h6,h7⟩:=(hs.nth hlen).ofOne hone
   refine ⟨_,v,hv,h6,fun w'=>?_⟩
   obtain ⟨n',e,u1,u2,u3⟩:=(hτ t).ae hae
   cases ha:(τ t).ar with
   | none=>rw [ha] at hf;simp at hf
   | some a =>
    rw [ha] at hf
    obtain ⟨n,z⟩:=a
    simp only [Option.bind_some] at hf
    split at hf
    case isFalse=>cases hf
    rename_i hn
    subst hn
    simp only [Option.some.injEq] at hf
    obtain ⟨e',u4,inf,u5,u6⟩:=(hτ t).ar _ _ ha
    rw [u1] at u4
    simp only [Option.some.injEq,TypeDesc.array.injEq] at u4
    obtain ⟨rfl,rfl⟩:=u4
    have hat:cs[i.toNat * z]? = some v:=by
     have h8:((cs.drop (s.offs i.toNat)).take (s.nth i.toNat).width)[0]? = some v:=by rw [h5];rfl
     rw [←hf] at h8
     rw [List.getElem?_take] at h8
     split at h8
     ·simpa using h8
     ·cases h8
    simp only [execOp,h3,h4]
    refine run_v ?_
    cases hu:c.P.underlying e with
    | none=>rw [hu] at u3;cases u3
    | some td =>
     have hia:(isAgg e).run c.P w' = .ok false w':=by
      unfold aggTy at u2
      rw [hu] at u2
      cases td <;> simp_all [isAgg,run_underlying hu]
     simp [Instr.index,asIntOf,run_underlying u1,hi0,hil,sizeOf,typeInfo,u5,u6,part,hia,hat]
  ·exact hv.elim
 · -- extract
  rename_i x i
  have hx:=he.ev x
  split at hv
  ·rename_i s t hs
   rw [hs] at hx
   obtain ⟨l,h1,h2⟩:=hx
   simp only [List.cons.injEq,and_true] at h1
   obtain ⟨v,h3,h4⟩:=Rl.nthV h2 ⟨_,_,rfl⟩ hv.1
   refine ⟨_,v,hv.2,h4,fun w'=>?_⟩
   simp only [execOp,h1]
   refine run_v ?_
   simp [Instr.extract,h3]
  ·exact hv.elim
 · -- len
  rename_i cl
  obtain ⟨callee,args,argTypes⟩:=cl
  obtain ⟨args⟩:=args
  obtain ⟨argTypes⟩:=argTypes
  unfold lenVc at hv
  split at hv
  rotate_left
  ·rename_i x t hcal harg hat
   simp only at hcal harg hat
   subst hcal harg hat
   have hx:=he.ev x
   split at hv
   ·rename_i z hk
    rw [hk] at hx
    simp only [Rl,List.cons.injEq,and_true] at hx
    cases hsl:(τ t).sl with
    | none=>rw [hsl] at hv;cases hv.1
    | some yy =>
     obtain ⟨e,zz,by_,zv⟩:=yy
     obtain ⟨u1,_⟩:=(hτ t).sl _ _ _ _ hsl
     refine ⟨_,.int .i64 0,hv.2,⟨rfl,rfl⟩,fun w'=>?_⟩
     simp [execOp,resolve,invoke,builtin,Builtin.cap_,hx,run_underlying u1,goInt]
   ·exact hv.elim
  ·rename_i x y hcal harg
   simp only at hcal harg
   subst hcal harg
   have hx:=he.ev x
   have hy:=he.ev y
   split at hv
   ·rename_i k n k' m hk hk'
    rw [hk] at hx
    rw [hk'] at hy
    obtain ⟨h3,_⟩:=hx
    obtain ⟨h4,_⟩:=hy
    simp only [List.cons.injEq,and_true] at h3 h4
    obtain ⟨rfl,hv⟩:=hv
    refine ⟨_,_,hv,⟨rfl,rfl⟩,fun w'=>?_⟩
    simp [execOp,resolve,invoke,builtin,Builtin.min_,Builtin.min2,h3,h4]
   ·exact hv.elim
  ·rename_i x y hcal harg
   simp only at hcal harg
   subst hcal harg
   have hx:=he.ev x
   have hy:=he.ev y
   split at hv
   ·rename_i k n k' m hk hk'
    rw [hk] at hx
    rw [hk'] at hy
    obtain ⟨h3,_⟩:=hx
    obtain ⟨h4,_⟩:=hy
    simp only [List.cons.injEq,and_true] at h3 h4
    obtain ⟨rfl,hv⟩:=hv
    refine ⟨_,_,hv,⟨rfl,rfl⟩,fun w'=>?_⟩
    simp [execOp,resolve,invoke,builtin,Builtin.max_,Builtin.max2,h3,h4]
   ·exact hv.elim
  ·exact hv.elim
  rename_i x t hcal harg hat
  simp only at hcal harg hat
  subst hcal harg hat
  have hx:=he.ev x
  split at hv
  ·rename_i k q lo n ex hk
   rw [hk] at hx
   obtain ⟨_,_,_,_,v,_,h3,hs⟩:=hx
   simp only [List.cons.injEq,and_true] at h3
   obtain ⟨A,cc,rfl,_⟩:=hs
   cases hsl:(τ t).sl with
   | none=>rw [hsl] at hv;cases hv.1
   | some yy =>
    obtain ⟨e,zz,by_,zv⟩:=yy
    obtain ⟨u1,_⟩:=(hτ t).sl _ _ _ _ hsl
    refine ⟨_,.int .i64 n,hv.2,⟨rfl,rfl⟩,fun w'=>?_⟩
    simp [execOp,resolve,invoke,builtin,Builtin.len_,h3,run_underlying u1,goInt]
  ·rename_i z s ex hk
   rw [hk] at hx
   obtain ⟨v,h3,s',h4,h5,_⟩:=hx
   simp only [List.cons.injEq,and_true] at h3
   subst h4
   obtain ⟨A,n,cc,rfl,hn⟩:∃ A n cc,v = .slice A n cc∧n = s'.len:=by
    have h6:=h5.2.2.2
    split at h6
    ·exact ⟨_,_,_,rfl,by omega⟩
    ·exact ⟨_,_,_,rfl,by omega⟩
    ·exact ⟨_,_,_,rfl,h6.2.1⟩
    ·exact h6.elim
   cases hsl:(τ t).sl with
   | none=>rw [hsl] at hv;cases hv.1
   | some yy =>
    obtain ⟨e,zz,by_,zv⟩:=yy
    obtain ⟨u1,_⟩:=(hτ t).sl _ _ _ _ hsl
    refine ⟨.val (.int .i64 n),.int .i64 n,?_,⟨rfl,rfl⟩,fun w'=>?_⟩
    ·have:=hv.2
     rw [T.erase_len,←hn] at this;exact this
    ·simp [execOp,resolve,invoke,builtin,Builtin.len_,h3,run_underlying u1,goInt]
  ·rename_i z hk
   rw [hk] at hx
   simp only [Rl,List.cons.injEq,and_true] at hx
   cases hsl:(τ t).sl with
   | none=>rw [hsl] at hv;cases hv.1
   | some yy =>
    obtain ⟨e,zz,by_,zv⟩:=yy
    obtain ⟨u1,_⟩:=(hτ t).sl _ _ _ _ hsl
    refine ⟨_,.int .i64 0,hv.2,⟨rfl,rfl⟩,fun w'=>?_⟩
    simp [execOp,resolve,invoke,builtin,Builtin.len_,hx,run_underlying u1,goInt]
  ·rename_i n hk
   rw [hk] at hx
   obtain ⟨A,cc,h3⟩:=hx
   simp only [List.cons.injEq,and_true] at h3
   cases hsl:(τ t).sl with
   | none=>rw [hsl] at hv;cases hv.1
   | some yy =>
    obtain ⟨e,zz,by_,zv⟩:=yy
    obtain ⟨u1,_⟩:=(hτ t).sl _ _ _ _ hsl
    refine ⟨_,.int .i64 n,hv.2,⟨rfl,rfl⟩,fun w'=>?_⟩
    simp [execOp,resolve,invoke,builtin,Builtin.len_,h3,run_underlying u1,goInt]
  ·rename_i s hk
   rw [hk] at hx
   obtain ⟨h3,_⟩:=hx
   simp only [List.cons.injEq,and_true] at h3
   have u1:=(hτ t).str hv.1
   refine ⟨_,.int .i64 s.size,hv.2,⟨rfl,rfl⟩,fun w'=>?_⟩
   simp [execOp,resolve,invoke,builtin,Builtin.len_,h3,run_underlying u1,goInt]
  ·exact hv.elim
 · -- a closure
  rename_i f x y
  split at hv
  case h_2=>exact hv.elim
  rename_i f
  obtain ⟨rfl,hK⟩:=hv
  refine ⟨_,.func (.func f) #[] (y.map a.eval),hK,⟨y.toList.map a.eval,?_,seqOf_rl he y.toList⟩,fun w'=>by simp [execOp,Instr.makeFunc]⟩
  congr 2
  apply Array.ext';simp
 ·exact hv.elim
end Go.Vc

/- Loads, struct values, stretches of slices. -/
namespace Go.Vc
set_option linter.all false
open T (hdr blk)
def plLook:List (Nat×Path×AV)→Nat→Path→AV
 | [],_,_=>.bad
 | (k',q',a) :: l,k,q=>if k' = k∧q' = q then (bif a.isOne then a else .bad) else plLook l k q
def AV.ofD (pl:List (Nat×Path×AV)) (k:Nat):Path→Nat→D→AV
 | _,_,.val v=>.val v
 | q,_,.junk _=>plLook pl k q
 | _,_,.sl false _ z s=>.imm z s false
 | q,_,.sl true _ _ s=>.sub k q 0 s.len false
 | _,_,.box false _ g=>.iptr g
 | q,_,.box true _ _=>.ptr k (q ++ [.d])
 | q,_,.map _ _ _=>.mp k q
 | _,_,.nil=>.nil
 | q,i,.cons h t=>.cons (AV.ofD pl k (q ++ [.f i]) 0 h) (AV.ofD pl k q (i + 1) t)
 | q,_,.agg s=>.agg (AV.ofD pl k q 0 s)
def AV.ofI:D→AV
 | .val v=>.val v
 | .junk _=>.bad
 | .sl _ _ z s=>.imm z s false
 | .box _ _ g=>.iptr g
 | .map _ _ _=>.bad
 | .nil=>.nil
 | .cons h t=>.cons (AV.ofI h) (AV.ofI t)
 | .agg s=>.agg (AV.ofI s)
def okRow {α:Type}:T α→Bool→Bool
 | .cons h t,true=>okRow h false && okRow t true
 | .nil,true=>true
 | .agg s,false=>okRow s true
 | .cons _ _,false=>false
 | .nil,false=>false
 | _,true=>false
 | _,false=>true
theorem okRow_erase {α:Type} (s:T α) (m:Bool):okRow s.erase m = okRow s m:=by
 induction s generalizing m with
 | cons h t ihh iht=>cases m <;> simp [okRow,T.erase,ihh,iht]
 | agg s ih=>cases m <;> simp [okRow,T.erase,ih]
 | _=>cases m <;> rfl
def ldOk (τ:Tab) (t:TypeId) (d:D):Prop :=
 match d with
 | .agg s=>okRow s true = true∧(τ t).ld = some (true,s.width)
 | .nil=>False
 | .cons _ _=>False
 | _=>(τ t).ld = some (false,1)
def loadVc (τ:Tab) (o:Op) (st:St) (K:AV→Prop):Prop :=
 match o with
 | .load t x=>match st.ev x with
  | .ptr k q=>ldOk τ t ((st.tree k).at_ q)∧K (AV.ofD st.pl k q 0 ((st.tree k).at_ q))
  | .iptr d=>ldOk τ t d∧K (AV.ofI d)
  | _=>False
 | _=>False
theorem plLook_ok {w:World} {I:Nat→Prop} {F:List G} {pl:List (Nat×Path×AV)} (hp:PlOk pl w I F) {k:Nat} {q:Path} {g:G} {v:Value} (hg:F[k]? = some g) (hq:g.at_ q = .junk v)
  (h1:v.oneCell' = true):Rl w.heap I F (plLook pl k q) false [v]:=by
 induction pl with
 | nil=>exact ⟨v,rfl,h1⟩
 | cons x l ih =>
  obtain ⟨k',q',a⟩:=x
  simp only [plLook]
  split
  ·rename_i he
   obtain ⟨rfl,rfl⟩:=he
   obtain ⟨g',v',h2,h3,h4⟩:=hp k' q' a List.mem_cons_self
   rw [hg] at h2;cases h2
   rw [hq] at h3;cases h3
   cases a.isOne with
   | true=>exact h4
   | false=>exact ⟨v,rfl,h1⟩
  ·exact ih fun k q av hm=>hp k q av (List.mem_cons_of_mem _ hm)
theorem Holds_sl_any {h:Array Obj} {I:Nat→Prop} {o:Bool} {a:Value} {z:Nat} {s:G} (H:T.Holds h I (.sl o a z s)) (hx:o = true∨∀ x n,a≠.slice (some x) n 0):SubRel a z s.len 0 s.len false a:=by
 obtain ⟨_,_,_,H4⟩:=H
 split at H4
 ·obtain ⟨rfl,rfl,h3⟩:=H4
  exact ⟨none,0,by rw [h3],by omega,by omega,by omega,(by intro h;cases h),rfl,rfl⟩
 ·rename_i x n
  obtain ⟨rfl,g1,h3⟩:=H4
  exact ⟨some x,0,by rw [h3],by omega,by omega,by omega,(by intro h;cases h),x,rfl,g1 (hx.resolve_right fun h=>h _ _ rfl),rfl,by omega,by omega,fun h=>by omega⟩
 ·rename_i x n c
  obtain ⟨g1,g2,g3,g4,_⟩:=H4
  exact ⟨some x,c + 1,by rw [g2],by omega,by omega,g4,(by intro h;cases h),x,rfl,g1,rfl,by omega,Nat.le_refl _,fun _=>by simp⟩
 ·exact H4.elim
theorem Holds_sl_nil {h:Array Obj} {I:Nat→Prop} {a:Value} {z:Nat} {s:G} (H:T.Holds h I (.sl true a z s)):SubRel a z s.len 0 s.len false a:=Holds_sl_any H (.inl rfl)
theorem ofD_rl {w:World} {I:Nat→Prop} {F:List G} {pl:List (Nat×Path×AV)} (hp:PlOk pl w I F) {k:Nat} {g:G} (hg:F[k]? = some g) :
  ∀ (s:G) (m:Bool) (q:Path) (i:Nat),okRow s m = true→T.Holds w.heap I s →
   (m = false→g.at_ q = s)→(m = true→∃ s0,g.at_ q = .agg s0∧∀ j,s0.nth (i + j) = s.nth j)→Rl w.heap I F (AV.ofD pl k q i s.erase) false s.cells:=by
 intro s
 induction s with
 | val v=>intro m q i _ H _ _;exact ⟨rfl,H⟩
 | junk v =>
  intro m q i hr H hq _
  cases m with
  | true=>cases hr
  | false=>exact plLook_ok hp hg (hq rfl) H
 | nil=>intro m q i _ _ _ _;exact rfl
 | cons a t iha iht =>
  intro m q i hr H _ hq
  cases m with
  | false=>cases hr
  | true =>
   simp only [okRow,Bool.and_eq_true] at hr
   obtain ⟨s0,h1,h2⟩:=hq rfl
   refine ⟨_,_,rfl,iha false (q ++ [.f i]) 0 hr.1 H.1 (fun _=>?_) (by intro h;cases h),iht true q (i + 1) hr.2 H.2 (by intro h;cases h) fun _=>⟨s0,h1,fun j=>?_⟩⟩
   ·rw [T.at_append,h1]
    have:=h2 0
    simpa [T.at_,T.nth] using this
   ·rw [show i + 1 + j = i + (j + 1) by omega,h2];rfl
 | agg s ih =>
  intro m q i hr H hq _
  cases m with
  | true=>cases hr
  | false=>exact ih true q 0 hr H (by intro h;cases h) fun _=>⟨s,hq rfl,fun j=>by simp⟩
 | sl o a z s ih =>
  intro m q i hr H hq hz
  obtain rfl:m = false:=by cases m <;> first | rfl | cases hr
  clear hz
  replace hq:=hq rfl
  cases o with
  | false=>exact ⟨a,rfl,s,rfl,H,(by intro h;cases h)⟩
  | true =>
   refine ⟨true,a,z,s.len,a,?_,rfl,?_⟩
   ·simp [hdrF,hg,hq,hdr]
   ·rw [T.erase_len];exact Holds_sl_nil H
 | box o a b ih =>
  intro m q i hr H hq hz
  obtain rfl:m = false:=by cases m <;> first | rfl | cases hr
  clear hz
  replace hq:=hq rfl
  obtain ⟨H1,H2,H3⟩:=H
  split at H3
  ·rename_i x
   obtain ⟨h1,h2,h3⟩:=H3
   cases o with
   | false=>exact ⟨_,rfl,b,x,rfl,H1,H2 rfl,rfl,h1,h2 rfl,h3.2⟩
   | true =>
    obtain ⟨xb,xo,xs⟩:=x
    simp only at h1
    subst h1
    refine ⟨xb,xo,?_,rfl⟩
    simp only [locF,hg,Option.bind_some]
    refine T.loc_deep ?_
    rw [hq]
    simp [T.loc,T.headAt]
  ·exact H3.elim
 | map o a s ih =>
  intro m q i hr H hq hz
  obtain rfl:m = false:=by cases m <;> first | rfl | cases hr
  clear hz
  replace hq:=hq rfl
  obtain ⟨H1,H2,H3⟩:=H
  split at H3
  ·exact ⟨o,_,0,0,by simp [hdrF,hg,hq,hdr],rfl⟩
  ·exact H3.elim
theorem ofI_rl {h:Array Obj} {I:Nat→Prop} {F:List G}:∀ (s:G),T.Holds h I s→s.free = true→Rl h I F (AV.ofI s.erase) false s.cells:=by
 intro s
 induction s with
 | val v=>intro H _;exact ⟨rfl,H⟩
 | junk v=>intro H _;exact ⟨v,rfl,H⟩
 | nil=>intro _ _;exact rfl
 | cons a t iha iht =>
  intro H hf
  simp only [T.free,Bool.and_eq_true] at hf
  exact ⟨_,_,rfl,iha H.1 hf.1,iht H.2 hf.2⟩
 | agg s ih=>intro H hf;exact ih H hf
 | sl o a z s ih =>
  intro H hf
  simp only [T.free,Bool.and_eq_true,Bool.not_eq_true'] at hf
  obtain ⟨rfl,hf⟩:=hf
  exact ⟨a,rfl,s,rfl,H,(by intro h;cases h)⟩
 | box o a b ih =>
  intro H hf
  simp only [T.free,Bool.and_eq_true,Bool.not_eq_true'] at hf
  obtain ⟨rfl,hf⟩:=hf
  obtain ⟨H1,H2,H3⟩:=H
  split at H3
  ·rename_i x
   obtain ⟨h1,h2,h3⟩:=H3
   exact ⟨_,rfl,b,x,rfl,H1,hf,rfl,h1,h2 rfl,h3.2⟩
  ·exact H3.elim
 | map o a s ih =>
  intro H hf
  refine ⟨a,rfl,?_⟩
  have:=H.2.2
  split at this <;> first | rfl | exact this.elim
theorem run_loadAt {P:Program} {τ:Tab} (hτ:Tab.Ok P τ) {t:TypeId} {d:D} (hd:ldOk τ t d) {w:World} {b o:Nat} {cs:List Value} (hr:T.RowAt w.heap b o cs) (hl:cs.length = d.width) :
  ∃ v,(Instr.loadAt t (.pointer (some ⟨b,o,none⟩))).run P w = .ok v w∧((∃ s,d = .agg s∧v = .agg cs.toArray)∨(cs = [v]∧∀ s,d≠.agg s)):=by
 obtain ⟨row,e,fr,h1,h2⟩:=hr
 have hcell:∀ j v,cs[j]? = some v→w.cell? ((⟨b,o,none⟩:Addr).add j) = some v:=fun j v hv=>by
  rw [addr_add,cell_of_row w b (o + j) row e fr h1]
  exact h2 j v hv
 have one:(τ t).ld = some (false,1)→d.width = 1→∃ v,(Instr.loadAt t (.pointer (some ⟨b,o,none⟩))).run P w = .ok v w∧cs = [v]:=fun hld hw=>by
  obtain ⟨ha,hu,i,hi,hs⟩:=(hτ t).ld _ _ hld
  rw [hw] at hl
  match cs,hl with
  | [v],_ =>
   refine ⟨v,?_,rfl⟩
   have hc:=hcell 0 v rfl
   have hz:(⟨b,o,none⟩:Addr).add 0 = ⟨b,o,none⟩:=rfl
   rw [hz] at hc
   rw [Option.isSome_iff_exists] at hu
   obtain ⟨td,hu⟩:=hu
   unfold aggTy at ha
   rw [hu] at ha
   simp [Instr.loadAt,Instr.sureAddr,loadVar,isAgg,run_underlying hu]
   cases td <;> simp_all
 unfold ldOk at hd
 split at hd
 ·rename_i s
  obtain ⟨_,hd⟩:=hd
  obtain ⟨ha,hu,i,hi,hs⟩:=(hτ t).ld _ _ hd
  refine ⟨.agg cs.toArray,?_,.inl ⟨s,rfl,rfl⟩⟩
  rw [Option.isSome_iff_exists] at hu
  obtain ⟨td,hu⟩:=hu
  have hl':i.size = cs.length:=by rw [hs,hl];rfl
  have hload:=run_loadCells_list (P:=P) w ⟨b,o,none⟩ cs hcell
  rw [←hl'] at hload
  unfold aggTy at ha
  rw [hu] at ha
  simp [Instr.loadAt,Instr.sureAddr,loadVar,isAgg,run_underlying hu,sizeOf,typeInfo,hi]
  cases td <;> simp_all
 ·exact hd.elim
 ·exact hd.elim
 ·rename_i h1 h2 h3
  have hw:d.width = 1:=by
   cases d <;> first | rfl | exact (h1 _ rfl).elim | exact (h2 rfl).elim | exact (h3 _ _ rfl).elim
  obtain ⟨v,hv,hc⟩:=one hd hw
  exact ⟨v,hv,.inr ⟨hc,h1⟩⟩
theorem ldOk_row {τ:Tab} {t:TypeId} {d:D} (h:ldOk τ t d):okRow d false = true:=by
 unfold ldOk at h
 split at h
 ·exact h.1
 ·exact h.elim
 ·exact h.elim
 ·rename_i h1 h2 h3
  cases d <;> first | rfl | exact (h1 _ rfl).elim | exact (h2 rfl).elim | exact (h3 _ _ rfl).elim
theorem Rl.loaded {h:Array Obj} {I:Nat→Prop} {F:List G} {av:AV} {d:D} {cs:List Value} {v:Value} (H:Rl h I F av false cs)
  (hv:(∃ s,d = .agg s∧v = .agg cs.toArray)∨(cs = [v]∧∀ s,d≠.agg s)) (ha:(∃ s,d = .agg s)→∃ s,av = .agg s) (hb:(∀ s,d≠.agg s)→av.isOne = true∨av = .bad):Rl h I F av true [v]:=by
 rcases hv with ⟨s,h1,rfl⟩ | ⟨rfl,h1⟩
 ·obtain ⟨s',rfl⟩:=ha ⟨s,h1⟩
  exact H.ofAgg
 ·rcases hb h1 with h2 | rfl
  ·obtain ⟨u,h3,h4,_⟩:=H.ofOne h2
   cases h3;exact h4
  ·exact ⟨v,rfl⟩
theorem ofI_form (d:D):((∃ s,d = .agg s)→∃ s,AV.ofI d = .agg s)∧((∀ s,d≠.agg s)→okRow d false = true→(AV.ofI d).isOne = true∨AV.ofI d = .bad):=by
 cases d <;> simp [AV.ofI,AV.isOne,okRow]
theorem plLook_form (pl:List (Nat×Path×AV)) (k:Nat) (q:Path):(plLook pl k q).isOne = true∨plLook pl k q = .bad:=by
 induction pl with
 | nil=>exact .inr rfl
 | cons x l ih =>
  obtain ⟨k',q',a⟩:=x
  simp only [plLook]
  split
  ·cases h:a.isOne with
   | true=>exact .inl h
   | false=>exact .inr rfl
  ·exact ih
theorem ofD_form (pl:List (Nat×Path×AV)) (k:Nat) (q:Path) (d:D):((∃ s,d = .agg s)→∃ s,AV.ofD pl k q 0 d = .agg s) ∧
  ((∀ s,d≠.agg s)→okRow d false = true→(AV.ofD pl k q 0 d).isOne = true∨AV.ofD pl k q 0 d = .bad):=by
 cases d with
 | junk a=>simp [AV.ofD,okRow];exact plLook_form pl k q
 | sl o a z s=>cases o <;> simp [AV.ofD,AV.isOne,okRow]
 | box o a g=>cases o <;> simp [AV.ofD,AV.isOne,okRow]
 | _=>simp [AV.ofD,AV.isOne,okRow]
def Ext (w w':World):Prop:=∀ b,b < w.heap.size→w'.heap[b]? = w.heap[b]?
theorem load_ok {c:Cx} {τ:Tab} (hτ:Tab.Ok c.P τ) {st:St} {a:Act} {w:World} {I:Nat→Prop} {F:List G} (hi:Inv c st.X st.κ w I F) (he:EnvOk st.env a w I F) (hp:PlOk st.pl w I F)
  {o:Oper} {K:AV→Prop} (hv:loadVc τ o.op st K):∃ av v,K av∧Rl w.heap I F av true [v]∧∀ w',Ext w w'→(execOp a.eval o).run c.P w' = .ok (.value v) w':=by
 obtain ⟨dst,op,ty,pos,after,guard⟩:=o
 simp only at hv
 unfold loadVc at hv
 split at hv
 ·rename_i t x
  have hx:=he.ev x
  split at hv
  ·rename_i k q hk
   rw [hk] at hx
   obtain ⟨b,o,h1,h2⟩:=hx
   simp only [List.cons.injEq,and_true] at h2
   obtain ⟨hld,hv⟩:=hv
   unfold locF at h1
   cases hg:F[k]? with
   | none=>rw [hg] at h1;simp at h1
   | some g =>
    rw [hg] at h1
    simp only [Option.bind_some] at h1
    have ht:=hi.tree hg
    have hH:=hi.holds g (List.mem_of_getElem? hg)
    have hrow:=T.loc_read hH h1
    have hrow:T.RowAt w.heap b o (g.at_ q).cells:=hrow
    have hd:(st.tree k).at_ q = (g.at_ q).erase:=by rw [ht,T.erase_at]
    rw [hd] at hld hv
    have hlen:(g.at_ q).cells.length = ((g.at_ q).erase).width:=by rw [T.cells_length,T.erase_width]
    have hrl:=ofD_rl hp hg (g.at_ q) false q 0 (by rw [←okRow_erase];exact ldOk_row hld) (hH.at_ q) (fun _=>rfl) (by intro h;cases h)
    obtain ⟨v,hr,hvv⟩:=run_loadAt (P:=c.P) hτ hld hrow hlen
    obtain ⟨f1,f2⟩:=ofD_form st.pl k q (g.at_ q).erase
    refine ⟨_,v,hv,hrl.loaded hvv f1 fun h=>f2 h (ldOk_row hld),fun w' hw'=>?_⟩
    have hb:b < w.heap.size:=by
     obtain ⟨row,e,fr,h3,_⟩:=hrow
     rcases Nat.lt_or_ge b w.heap.size with h' | h'
     ·exact h'
     ·rw [Array.getElem?_eq_none h'] at h3;cases h3
    have hrow':T.RowAt w'.heap b o (g.at_ q).cells:=by
     obtain ⟨row,e,fr,h3,h4⟩:=hrow
     exact ⟨row,e,fr,by rw [hw' b hb];exact h3,h4⟩
    obtain ⟨v',hr',hvv'⟩:=run_loadAt (P:=c.P) hτ hld hrow' hlen
    have hvv2:v' = v:=by
     rcases hvv with ⟨s,h3,h4⟩ | ⟨h3,h4⟩ <;> rcases hvv' with ⟨s',h5,h6⟩ | ⟨h5,h6⟩
     ·rw [h4,h6]
     ·exact absurd h3 (h6 s)
     ·exact absurd h5 (h4 s')
     ·rw [h3] at h5;cases h5;rfl
    rw [hvv2] at hr'
    simp only [execOp,h2]
    exact run_v hr'
  ·rename_i d hk
   rw [hk] at hx
   obtain ⟨v0,h1,g,x0,h2,h3,h4,rfl,h5,h6,h7⟩:=hx
   simp only [List.cons.injEq,and_true] at h1
   obtain ⟨hld,hv⟩:=hv
   obtain ⟨xb,xo,xs⟩:=x0
   simp only at h5 h6 h7
   subst h5
   subst h2
   have hlen:g.cells.length = g.erase.width:=by rw [T.cells_length,T.erase_width]
   obtain ⟨v,hr,hvv⟩:=run_loadAt (P:=c.P) hτ hld h7 hlen
   obtain ⟨f1,f2⟩:=ofI_form g.erase
   refine ⟨_,v,hv,(ofI_rl g h3 h4).loaded hvv f1 fun h=>f2 h (ldOk_row hld),fun w' hw'=>?_⟩
   have hrow':T.RowAt w'.heap xb xo g.cells:=by
    obtain ⟨row,e,fr,h8,h9⟩:=h7
    exact ⟨row,e,fr,by rw [hw' xb (hi.ilt xb h6)];exact h8,h9⟩
   obtain ⟨v',hr',hvv'⟩:=run_loadAt (P:=c.P) hτ hld hrow' hlen
   have hvv2:v' = v:=by
    rcases hvv with ⟨s,h8,h9⟩ | ⟨h8,h9⟩ <;> rcases hvv' with ⟨s',h10,h11⟩ | ⟨h10,h11⟩
    ·rw [h9,h11]
    ·exact absurd h8 (h11 s)
    ·exact absurd h10 (h9 s')
    ·rw [h8] at h10;cases h10;rfl
   rw [hvv2] at hr'
   simp only [execOp,h1]
   exact run_v hr'
  ·exact hv.elim
 ·exact hv.elim
theorem sub_slice {a:Value} {z len lo n c l h m:Nat} {ex:Bool} {A:Option Addr} {b:Bool} (H:SubRel a z len lo n ex (.slice A n c)) (h1:l≤h) (h2:h≤n) (h3:h≤m) (h4:m≤c) (hb:b = true→m = h) :
  SubRel a z len (lo + l) (h - l) b (.slice (if m = l then A else A.map (·.add (l * z))) (h - l) (m - l)):=by
 obtain ⟨A0,c0,he,q1,q2,q3,q4,q5⟩:=H
 cases he
 refine ⟨_,_,rfl,by omega,by omega,by omega,fun hh=>by rw [hb hh],?_⟩
 split at q5
 ·obtain ⟨rfl,rfl⟩:=q5
  refine ⟨?_,by omega⟩
  split <;> rfl
 ·rename_i x nn cap
  obtain ⟨y,rfl,r1,r2,r3,r4,r5⟩:=q5
  obtain ⟨yb,yo,ys⟩:=y
  simp only at r1 r2 r4 r5
  subst r1
  by_cases hm:m = l
  ·rw [if_pos hm]
   refine ⟨_,rfl,rfl,r2,by omega,?_,fun hh=>by omega⟩
   have:m - l = 0:=by omega
   rw [this]
   simp only [Nat.zero_mul]
   omega
  ·rw [if_neg hm]
   have hoff:=r5 (by omega)
   simp only [Option.map_some,addr_add]
   refine ⟨_,rfl,rfl,r2,by omega,?_,fun _=>?_⟩
   ·simp only
    rw [hoff]
    have e1:(lo + c) * z≤cap * z:=Nat.mul_le_mul_right _ r3
    have e2:(m - l) * z + l * z = m * z:=by rw [←Nat.add_mul];congr 1;omega
    have e3:m * z≤c * z:=Nat.mul_le_mul_right _ h4
    rw [Nat.add_mul] at e1
    omega
   ·simp only
    rw [hoff,Nat.add_mul];omega
 ·exact q5.elim
def boundVc (x:Option AV) (dflt:Nat) (K:Nat→Prop):Prop :=
 match x with
 | none=>K dflt
 | some (.val (.int _ i))=>0≤i∧K i.toNat
 | _=>False
def sliceVc (τ:Tab) (st:St) (t:TypeId) (x:AV) (lo hi mx:Option AV) (K:AV→Prop):Prop :=
 match x with
 | .sub k q l0 n ex=>((τ t).sl.map fun y=>y.2.1) = some ((st.tree k).at_ q).esz ∧
   boundVc lo 0 fun l=>boundVc hi n fun h=>boundVc mx h fun m=>l≤h∧h≤n∧m = h∧K (.sub k q (l0 + l) (h - l) (mx.isSome || (ex && hi.isNone)))
 | .imm z s ex=>((τ t).sl.map fun y=>y.2.1) = some z ∧
   boundVc lo 0 fun l=>boundVc hi s.len fun h=>boundVc mx h fun m=>l≤h∧h≤s.len∧m = h∧K (.imm z (s.mid l (h - l)) (mx.isSome || (ex && hi.isNone)))
 | .nils z=>(τ t).sl.isSome = true∧boundVc lo 0 fun l=>boundVc hi 0 fun h=>boundVc mx h fun m=>l≤h∧h≤0∧m = h∧K (.nils z)
 | .val (.string s)=>(τ t).str = true∧mx = none ∧
   boundVc lo 0 fun l=>boundVc hi s.size fun h=>l≤h∧h≤s.size∧K (.val (.string (s.extract l h)))
 | _=>False
theorem imm_stretch {h:Array Obj} {I:Nat→Prop} {v:Value} {z:Nat} {s:G} (H:T.Holds h I (.sl false v z s)):∃ A cc,v = .slice A s.len cc∧s.len≤cc∧cc≤2 ^ 63 - 1 ∧
  ∀ l m k,l≤m→m≤s.len→m≤k→k≤cc→T.Holds h I (.sl false (.slice (if k = l then A else A.map (·.add (l * z))) (m - l) (k - l)) z (s.mid l (m - l))):=by
 by_cases hx:∃ x n,v = .slice (some x) n 0
 ·obtain ⟨x,n,rfl⟩:=hx
  obtain ⟨H1,H2,H3,h1,h2,h3⟩:=id H
  subst h1
  refine ⟨some x,0,by rw [h3],by omega,by omega,fun l m k a1 a2 a3 a4=>?_⟩
  obtain rfl:k = 0:=by omega
  obtain rfl:m = 0:=by omega
  obtain rfl:l = 0:=by omega
  have hs:s = .nil:=T.uni_zero H2 h3
  subst hs
  exact H
 ·have hn:=Holds_sl_any H (.inr fun x n e=>hx ⟨x,n,e⟩)
  obtain ⟨A,cc,rfl,q1,q2,q3,q4,q5⟩:=id hn
  refine ⟨A,cc,rfl,by omega,q3,fun l m k a1 a2 a3 a4=>?_⟩
  have hs':=sub_slice (m:=k) (b:=false) hn a1 a2 a3 a4 (fun h=>by cases h)
  obtain ⟨hst,_⟩:=T.Holds.stretch H hs'
  simp only [Nat.zero_add] at hst
  exact hst
theorem bound_of {x:Option AV} {d:Nat} {K:Nat→Prop} (h:boundVc x d K):∃ n,K n∧((x = none∧n = d)∨∃ kk i,x = some (.val (.int kk i))∧0≤i∧n = i.toNat):=by
 unfold boundVc at h
 split at h
 ·exact ⟨_,h,.inl ⟨rfl,rfl⟩⟩
 ·exact ⟨_,h.2,.inr ⟨_,_,rfl,h.1,rfl⟩⟩
 ·exact h.elim
def RlO (h:Array Obj) (I:Nat→Prop) (F:List G) (x:Option AV) (v:Option Value):Prop :=
 match x,v with
 | none,none=>True
 | some x,some v=>Rl h I F x true [v]
 | _,_=>False
theorem RlO.int {h:Array Obj} {I:Nat→Prop} {F:List G} {kk:IntKind} {i:Int} {v:Option Value} (H:RlO h I F (some (.val (.int kk i))) v):v = some (.int kk i):=by
 cases v with
 | none=>exact H.elim
 | some v =>
  obtain ⟨h1,_⟩:=H
  cases h1;rfl
theorem RlO.nothing {h:Array Obj} {I:Nat→Prop} {F:List G} {v:Option Value} (H:RlO h I F none v):v = none:=by
 cases v with
 | none=>rfl
 | some v=>exact H.elim
theorem run_bound {P:Program} {kk:IntKind} {i:Int} {y:Nat} {code:BoundsCode} {w:World} (h0:0≤i) (h1:i.toNat≤y):(Instr.sliceBound (.int kk i) y code).run P w = .ok i.toNat w:=by
 have:0≤i∧i≤(y:Int):=⟨h0,by omega⟩
 simp [Instr.sliceBound,asIntOf,this]
theorem run_bounds {P:Program} {h:Array Obj} {I:Nat→Prop} {F:List G} {isS:Bool} {len cap:Nat} {lo hi mx:Option AV} {vl vh vm:Option Value} {l hh m:Nat} {w:World}
  (rl:RlO h I F lo vl) (rh:RlO h I F hi vh) (rm:RlO h I F mx vm) (hl:(lo = none∧l = 0)∨∃ kk i,lo = some (.val (.int kk i))∧0≤i∧l = i.toNat)
  (hhi:(hi = none∧hh = len)∨∃ kk i,hi = some (.val (.int kk i))∧0≤i∧hh = i.toNat) (hmx:(mx = none)∨∃ kk i,mx = some (.val (.int kk i))∧0≤i∧m = i.toNat)
  (h1:l≤hh) (h2:hh≤cap) (h3:mx≠none→hh≤m∧m≤cap∧hi≠none) :
  (Instr.sliceBounds isS len cap vl vh vm).run P w = .ok (l,hh,bif mx.isSome then m else cap) w:=by
 rcases hmx with rfl | ⟨kk,i,rfl,hi0,rfl⟩
 ·have:=rm.nothing
  subst this
  rcases hhi with ⟨rfl,rfl⟩ | ⟨kk',i',rfl,hi0',rfl⟩
  ·have:=rh.nothing
   subst this
   rcases hl with ⟨rfl,rfl⟩ | ⟨kk2,i2,rfl,hi2,rfl⟩
   ·have:=rl.nothing
    subst this
    simp [Instr.sliceBounds]
   ·rw [rl.int]
    simp [Instr.sliceBounds,run_bound hi2 h1]
  ·rw [rh.int]
   rcases hl with ⟨rfl,rfl⟩ | ⟨kk2,i2,rfl,hi2,rfl⟩
   ·have:=rl.nothing
    subst this
    simp [Instr.sliceBounds,run_bound hi0' h2]
   ·rw [rl.int]
    simp [Instr.sliceBounds,run_bound hi2 h1,run_bound hi0' h2]
 ·rw [rm.int]
  obtain ⟨q1,q2,q3⟩:=h3 (by simp)
  rcases hhi with ⟨rfl,rfl⟩ | ⟨kk',i',rfl,hi0',rfl⟩
  ·exact absurd rfl q3
  ·rw [rh.int]
   rcases hl with ⟨rfl,rfl⟩ | ⟨kk2,i2,rfl,hi2,rfl⟩
   ·have:=rl.nothing
    subst this
    simp [Instr.sliceBounds,run_bound hi0' q1,run_bound hi0 q2]
   ·rw [rl.int]
    simp [Instr.sliceBounds,run_bound hi2 h1,run_bound hi0' q1,run_bound hi0 q2]
theorem slice_ok {c:Cx} {τ:Tab} (hτ:Tab.Ok c.P τ) {st:St} {w:World} {I:Nat→Prop} {F:List G} (hi:Inv c st.X st.κ w I F) {t:TypeId} {x:AV} {v:Value} {lo hi' mx:Option AV}
  {vl vh vm:Option Value} (hx:Rl w.heap I F x true [v]) (rl:RlO w.heap I F lo vl) (rh:RlO w.heap I F hi' vh) (rm:RlO w.heap I F mx vm) (hmh:mx≠none→hi'≠none) {K:AV→Prop} (hv:sliceVc τ st t x lo hi' mx K) :
  ∃ av v',K av∧Rl w.heap I F av true [v']∧∀ w',(Instr.sliceAt t v vl vh vm).run c.P w' = .ok v' w':=by
 unfold sliceVc at hv
 split at hv
 ·rename_i k q l0 n ex
  obtain ⟨hz,hv⟩:=hv
  obtain ⟨l,hv,hl⟩:=bound_of hv
  obtain ⟨h,hv,hh⟩:=bound_of hv
  obtain ⟨m,hv,hm⟩:=bound_of hv
  obtain ⟨h1,h2,h3,hK⟩:=hv
  obtain ⟨own,a0,z0,len0,v0,hd,h4,hs⟩:=hx
  cases h4
  obtain ⟨A,cc,rfl,q1,q2,q3,q4,q5⟩:=id hs
  cases hsl:(τ t).sl with
  | none=>rw [hsl] at hz;cases hz
  | some yy =>
   obtain ⟨e,zz,by_,zv⟩:=yy
   rw [hsl] at hz
   simp only [Option.map_some,Option.some.injEq] at hz
   obtain ⟨u1,inf,u2,u3,u4,u5,u6⟩:=(hτ t).sl _ _ _ _ hsl
   have hez:zz = z0:=by
    unfold hdrF at hd
    cases hg:F[k]? with
    | none=>rw [hg] at hd;simp at hd
    | some g =>
     rw [hg] at hd
     simp only [Option.bind_some] at hd
     rw [hi.tree hg,←T.erase_at] at hz
     have hHq:=(hi.holds g (List.mem_of_getElem? hg)).at_ q
     cases hgq:g.at_ q with
     | sl o' a' z' s' =>
      rw [hgq] at hd hz
      simp only [hdr,Option.some.injEq,Prod.mk.injEq] at hd
      obtain ⟨_,_,rfl,_⟩:=hd
      exact hz
     | box o' a' g' =>
      exfalso
      rw [hgq] at hd hHq
      simp only [hdr,Option.some.injEq,Prod.mk.injEq] at hd
      obtain ⟨_,rfl,_,_⟩:=hd
      have:=hHq.2.2
      split at this <;> simp_all
     | map o' a' s' =>
      exfalso
      rw [hgq] at hd hHq
      simp only [hdr,Option.some.injEq,Prod.mk.injEq] at hd
      obtain ⟨_,rfl,_,_⟩:=hd
      have:=hHq.2.2
      split at this <;> simp_all
     | _=>rw [hgq] at hd;simp [hdr] at hd
   subst hez
   have hb:=run_bounds (P:=c.P) (isS:=true) (len:=n) (cap:=cc) (m:=m) (w:=w) rl rh rm hl hh
   have key:∀ (mm:Nat) (b:Bool),(∀ w',(Instr.sliceBounds true n cc vl vh vm).run c.P w' = .ok (l,h,mm) w')→h≤mm→mm≤cc→(b = true→mm = h) →
     b = (mx.isSome || (ex && hi'.isNone))→∃ av v',K av∧Rl w.heap I F av true [v']∧∀ w',(Instr.sliceAt t (.slice A n cc) vl vh vm).run c.P w' = .ok v' w':=by
    intro mm b hr hm1 hm2 hb1 hb2
    have hs':=sub_slice (m:=mm) (b:=b) hs h1 h2 hm1 hm2 hb1
    refine ⟨_,.slice (if mm = l then A else A.map (·.add (l * zz))) (h - l) (mm - l),hK,?_,fun w'=>?_⟩
    ·rw [←hb2]
     exact ⟨own,a0,zz,len0,_,hd,rfl,hs'⟩
    ·simp [Instr.sliceAt,Instr.slice,run_underlying u1,hr w',sizeOf,typeInfo,u2,u4]
   rcases hm with ⟨rfl,_⟩ | ⟨kk,i,hmx,hi0,rfl⟩
   ·refine key cc (ex && hi'.isNone) (fun w'=>?_) (by omega) (Nat.le_refl _) (fun hh'=>?_) (by simp)
    ·exact run_bounds (m:=m) rl rh rm hl hh (.inl rfl) h1 (by omega) (fun h=>absurd rfl h)
    ·simp only [Bool.and_eq_true,Option.isNone_iff_eq_none] at hh'
     rcases hh with ⟨_,rfl⟩ | ⟨kk,i,hhi,_⟩
     ·exact q4 hh'.1
     ·rw [hhi] at hh';cases hh'.2
   ·refine key i.toNat true (fun w'=>?_) (by omega) (by omega) (fun _=>h3) (by rw [hmx];rfl)
    have:=run_bounds (P:=c.P) (isS:=true) (len:=n) (cap:=cc) (w:=w') rl rh rm hl hh (.inr ⟨kk,i,hmx,hi0,rfl⟩) h1 (by omega) (fun hn=>⟨by omega,by omega,hmh hn⟩)
    rw [hmx] at this;exact this
 ·rename_i z s ex
  obtain ⟨hz,hv⟩:=hv
  obtain ⟨l,hv,hl⟩:=bound_of hv
  obtain ⟨h,hv,hh⟩:=bound_of hv
  obtain ⟨m,hv,hm⟩:=bound_of hv
  obtain ⟨h1,h2,h3,hK⟩:=hv
  obtain ⟨v0,h4,s',hs1,hs2,hs3⟩:=hx
  cases h4
  subst hs1
  rw [T.erase_len] at h2 hh
  obtain ⟨A,cc,rfl,q2,q3,hstr⟩:=imm_stretch hs2
  cases hsl:(τ t).sl with
  | none=>rw [hsl] at hz;cases hz
  | some yy =>
   obtain ⟨e,zz,by_,zv⟩:=yy
   rw [hsl] at hz
   simp only [Option.map_some,Option.some.injEq] at hz
   subst hz
   obtain ⟨u1,inf,u2,u3,u4,u5,u6⟩:=(hτ t).sl _ _ _ _ hsl
   have key:∀ (mm:Nat) (b:Bool),(∀ w',(Instr.sliceBounds true s'.len cc vl vh vm).run c.P w' = .ok (l,h,mm) w')→h≤mm→mm≤cc→(b = true→mm = h) →
     b = (mx.isSome || (ex && hi'.isNone))→∃ av v',K av∧Rl w.heap I F av true [v']∧∀ w',(Instr.sliceAt t (.slice A s'.len cc) vl vh vm).run c.P w' = .ok v' w':=by
    intro mm b hr hm1 hm2 hb1 hb2
    have hst:=hstr l h mm h1 h2 hm1 hm2
    refine ⟨_,.slice (if mm = l then A else A.map (·.add (l * zz))) (h - l) (mm - l),hK,?_,fun w'=>?_⟩
    ·refine ⟨_,rfl,s'.mid l (h - l),T.erase_mid s' l (h - l),hst,fun he A' n' c' hAnc=>?_⟩
     cases hAnc
     rw [←hb2] at he
     have:=hb1 he
     omega
    ·simp [Instr.sliceAt,Instr.slice,run_underlying u1,hr w',sizeOf,typeInfo,u2,u4]
   rcases hm with ⟨rfl,_⟩ | ⟨kk,i,hmx,hi0,rfl⟩
   ·refine key cc (ex && hi'.isNone) (fun w'=>?_) (by omega) (Nat.le_refl _) (fun hh'=>?_) (by simp)
    ·exact run_bounds (m:=m) rl rh rm hl hh (.inl rfl) h1 (by omega) (fun h=>absurd rfl h)
    ·simp only [Bool.and_eq_true,Option.isNone_iff_eq_none] at hh'
     rcases hh with ⟨_,rfl⟩ | ⟨kk,i,hhi,_⟩
     ·exact hs3 hh'.1 _ _ _ rfl
     ·rw [hhi] at hh';cases hh'.2
   ·refine key i.toNat true (fun w'=>?_) (by omega) (by omega) (fun _=>h3) (by rw [hmx];rfl)
    have:=run_bounds (P:=c.P) (isS:=true) (len:=s'.len) (cap:=cc) (w:=w') rl rh rm hl hh (.inr ⟨kk,i,hmx,hi0,rfl⟩) h1 (by omega) (fun hn=>⟨by omega,by omega,hmh hn⟩)
    rw [hmx] at this;exact this
 ·rename_i z
  obtain ⟨hz,hv⟩:=hv
  obtain ⟨l,hv,hl⟩:=bound_of hv
  obtain ⟨h,hv,hh⟩:=bound_of hv
  obtain ⟨m,hv,hm⟩:=bound_of hv
  obtain ⟨h1,h2,h3,hK⟩:=hv
  obtain rfl:l = 0:=by omega
  obtain rfl:h = 0:=by omega
  subst h3
  simp only [Rl,List.cons.injEq,and_true] at hx
  subst hx
  cases hsl:(τ t).sl with
  | none=>rw [hsl] at hz;cases hz
  | some yy =>
   obtain ⟨e,zz,by_,zv⟩:=yy
   obtain ⟨u1,inf,u2,u3,u4,u5,u6⟩:=(hτ t).sl _ _ _ _ hsl
   refine ⟨_,.slice none 0 0,hK,rfl,fun w'=>?_⟩
   have hr:(Instr.sliceBounds true 0 0 vl vh vm).run c.P w' = .ok (0,0,0) w':=by
    rcases hm with ⟨rfl,_⟩ | ⟨kk,i,hmx,hi0,h0⟩
    ·exact run_bounds (m:=0) rl rh rm hl hh (.inl rfl) (Nat.le_refl _) (Nat.le_refl _) (fun h=>absurd rfl h)
    ·have:=run_bounds (P:=c.P) (isS:=true) (len:=0) (cap:=0) (w:=w') rl rh rm hl hh (.inr ⟨kk,i,hmx,hi0,h0⟩) (Nat.le_refl _) (Nat.le_refl _) (fun hn=>⟨by omega,by omega,hmh hn⟩)
     rw [hmx] at this;exact this
   simp [Instr.sliceAt,Instr.slice,run_underlying u1,hr,sizeOf,typeInfo,u2]
 ·rename_i s
  obtain ⟨hstr,rfl,hv⟩:=hv
  obtain ⟨l,hv,hl⟩:=bound_of hv
  obtain ⟨h,hv,hh⟩:=bound_of hv
  obtain ⟨h1,h2,hK⟩:=hv
  obtain ⟨h4,_⟩:=hx
  cases h4
  have u1:=(hτ t).str hstr
  have:=rm.nothing
  subst this
  refine ⟨_,.string (s.extract l h),hK,⟨rfl,rfl⟩,fun w'=>?_⟩
  have hb:=run_bounds (P:=c.P) (isS:=false) (len:=s.size) (cap:=s.size) (m:=0) (w:=w') rl rh rm hl hh (.inl rfl) h1 h2 (fun h=>absurd rfl h)
  simp [Instr.sliceAt,Instr.slice,run_underlying u1,hb]
 ·exact hv.elim
end Go.Vc

/- Struct values and slices written out. -/
namespace Go.Vc
set_option linter.all false
open T (hdr blk)
def AV.setN:AV→Nat→AV→AV
 | .cons _ t,0,x=>.cons x t
 | .cons a t,i + 1,x=>.cons a (t.setN i x)
 | s,_,_=>s
def splice (l:List Value) (o:Nat) (m:List Value):List Value:=l.take o ++ m ++ l.drop (o + m.length)
section
variable {h:Array Obj} {I:Nat→Prop} {F:List G}
theorem Rl.setN {s:AV} {cs:List Value} (H:Rl h I F s false cs) {i:Nat} (hi:i < s.len) {av:AV} {cv:List Value} (hv:Rl h I F av false cv) (hw:cv.length = (s.nth i).width) :
  Rl h I F (s.setN i av) false (splice cs (s.offs i) cv):=by
 induction s generalizing cs i with
 | cons a t iha iht =>
  obtain ⟨v1,v2,rfl,h1,h2⟩:=H
  cases i with
  | zero =>
   refine ⟨cv,v2,?_,hv,h2⟩
   simp only [AV.nth] at hw
   have:=h1.width
   simp only [splice,AV.offs,List.take_zero,List.nil_append,Nat.zero_add]
   rw [hw,←this,List.drop_left]
  | succ i =>
   simp only [AV.nth] at hw
   refine ⟨v1,splice v2 (t.offs i) cv,?_,h1,iht h2 (by simpa [AV.len] using hi) hw⟩
   have:=h1.width
   simp only [splice,AV.offs]
   rw [←this,List.take_append,List.drop_append]
   simp only [Nat.add_sub_cancel_left]
   rw [List.take_of_length_le (by omega),List.drop_of_length_le (by omega)]
   simp only [List.nil_append,List.append_assoc,List.append_cancel_left_eq]
   rw [show v1.length + t.offs i + cv.length - v1.length = t.offs i + cv.length by omega]
 | _=>simp [AV.len] at hi
theorem AV.len_setN (s:AV) (i:Nat) (x:AV):(s.setN i x).len = s.len:=by
 induction s generalizing i with
 | cons a t _ iht=>cases i <;> simp [AV.setN,AV.len,iht]
 | _=>simp [AV.setN]
end
theorem foldl_cells (off:Nat):∀ (l:List Value) (k:Nat) (cells:Array Value),off + k + l.length≤cells.size →
  ((l.zipIdx k).foldl (fun (cs:Array Value) (x:Value×Nat)=>cs.setIfInBounds (off + x.2) x.1) cells).toList = splice cells.toList (off + k) l:=by
 intro l
 induction l with
 | nil=>intro k cells _;simp [splice]
 | cons v l ih =>
  intro k cells hl
  simp only [List.length_cons] at hl
  simp only [List.zipIdx_cons,List.foldl_cons]
  rw [ih (k + 1) _ (by simp;omega)]
  simp only [splice,Array.toList_setIfInBounds,List.length_cons]
  have hk:off + k < cells.toList.length:=by rw [Array.length_toList];omega
  rw [show off + (k + 1) = off + k + 1 by omega,List.take_succ_eq_append_getElem (by simp;omega),List.take_set_of_le (by omega)]
  simp only [List.getElem_set_self,List.append_assoc,List.singleton_append]
  rw [List.drop_set_of_lt (by omega),show off + k + (l.length + 1) = off + k + 1 + l.length by omega]
theorem fill_step {place:Nat→Option (Nat×Nat)} {cells:Array Value} {i off size:Nat} {v:Value} {r:List (Nat×Value)} (hp:place i = some (off,size)) (hs:v.cells.size = size)
  (hf:off + size≤cells.size):∃ cells',cells'.toList = splice cells.toList off v.cells.toList∧cells'.size = cells.size∧Instr.fill place cells ((i,v) :: r) = Instr.fill place cells' r:=by
 subst hs
 refine ⟨v.cells.zipIdx.foldl (fun cs (c,j)=>cs.setIfInBounds (off + j) c) cells,?_,?_,?_⟩
 ·rw [←Array.foldl_toList,Array.toList_zipIdx]
  have:=foldl_cells off v.cells.toList 0 cells (by simpa using hf)
  simpa using this
 ·rw [←Array.foldl_toList,Array.toList_zipIdx]
  have:=congrArg List.length (foldl_cells off v.cells.toList 0 cells (by simpa using hf))
  simp only [Array.length_toList,splice,Nat.add_zero,List.length_append,List.length_take,List.length_drop] at this
  rw [this]
  omega
 ·have h1:¬ (v.cells.size≠v.cells.size || off + v.cells.size > cells.size) = true:=by simp;omega
  simp only [Instr.fill,hp]
  rw [if_neg (by simpa using h1)]
def St.evZ (st:St) (z:AV) (x:Operand):AV :=
 match x,z with
 | .const (.slice none 0 0),.nils n=>.nils n
 | x,_=>st.ev x
def partsVc (st:St) (place:Nat→Option (Nat×Nat)):AV→List (Nat×Operand)→(AV→Prop)→Prop
 | s,[],K=>K s
 | s,(i,x) :: r,K=>i < s.len∧(st.evZ (s.nth i) x).isCell = true∧(st.evZ (s.nth i) x).width = (s.nth i).width∧place i = some (s.offs i,(s.nth i).width) ∧
   partsVc st place (s.setN i (st.evZ (s.nth i) x)) r K
theorem evZ_rl {st:St} {a:Act} {w:World} {I:Nat→Prop} {F:List G} (he:EnvOk st.env a w I F) (z:AV) (x:Operand):Rl w.heap I F (st.evZ z x) true [a.eval x]:=by
 unfold St.evZ
 split
 ·exact rfl
 ·exact he.ev x
theorem parts_ok {st:St} {a:Act} {w:World} {I:Nat→Prop} {F:List G} (he:EnvOk st.env a w I F) {place:Nat→Option (Nat×Nat)} {K:AV→Prop} :
  ∀ (parts:List (Nat×Operand)) (s:AV) (cells:Array Value),Rl w.heap I F s false cells.toList→partsVc st place s parts K →
   ∃ s' cells',K s'∧Rl w.heap I F s' false cells'.toList∧s'.len = s.len∧Instr.fill place cells (parts.map fun (i,x)=>(i,a.eval x)) = some cells':=by
 intro parts
 induction parts with
 | nil=>intro s cells H hv;exact ⟨s,cells,hv,H,rfl,rfl⟩
 | cons p r ih =>
  intro s cells H hv
  obtain ⟨i,x⟩:=p
  obtain ⟨h1,h2,h3,h4,h5⟩:=hv
  have hx:=(evZ_rl he (s.nth i) x).toCells h2
  have hw:=hx.width
  have hn:=H.nth h1
  have hlen:s.offs i + (s.nth i).width≤cells.size:=by
   have:=hn.width
   simp only [List.length_take,List.length_drop,Array.length_toList] at this
   rcases Nat.eq_zero_or_pos (s.nth i).width with h0 | h0
   ·rw [h0]
    have hle:s.offs i≤s.width:=by
     have:∀ (s:AV) i,i < s.len→s.offs i≤s.width:=by
      intro s
      induction s with
      | cons a t _ iht=>intro i hi;cases i with
       | zero=>simp [AV.offs]
       | succ i=>have:=iht i (by simpa [AV.len] using hi);simp only [AV.offs,AV.width];omega
      | _=>intro i hi;simp [AV.len] at hi
     exact this s i h1
    have:=H.width
    simp only [Array.length_toList] at this
    omega
   ·omega
  obtain ⟨cells',g1,g2,g3⟩:=fill_step (place:=place) (cells:=cells) (v:=a.eval x) (r:=r.map fun (i,x)=>(i,a.eval x)) h4 (by rw [←h3,←hw];simp) hlen
  have H':=H.setN h1 hx (by rw [hw,h3])
  rw [←g1] at H'
  obtain ⟨s',c',k1,k2,k3,k4⟩:=ih _ cells' H' h5
  exact ⟨s',c',k1,k2,by rw [k3,AV.len_setN],by simp only [List.map_cons];rw [g3];exact k4⟩
def buildVc (τ:Tab) (st:St) (t:TypeId) (parts:List (Nat×Operand)) (K:AV→Prop):Prop :=
 match (τ t).zero,(τ t).st,(τ t).ar with
 | some (.agg s),some l,_=>partsVc st (fun i=>l[i]?) (AV.ofZ s) parts fun r=>K (.agg r)
 | some (.agg s),none,some (_,z)=>partsVc st (fun i=>some (i * z,z)) (AV.ofZ s) parts fun r=>K (.agg r)
 | _,_,_=>False
theorem zero_parts {P:Program} {τ:Tab} (hτ:Tab.Ok P τ) {t:TypeId} {g:G} (hz:(τ t).zero = some g) :
  zeroish g = true∧∀ w,∃ z,(zeroValue t).run P w = .ok z w∧z.cells.toList = g.cells:=by
 obtain ⟨h1,i,z,h2,h3,h4⟩:=(hτ t).zero g hz
 exact ⟨h1,fun w=>⟨z,by simp [zeroValue,typeInfo,h2,h3],h4⟩⟩
theorem build_ok {c:Cx} {τ:Tab} (hτ:Tab.Ok c.P τ) {st:St} {a:Act} {w:World} {I:Nat→Prop} {F:List G} (he:EnvOk st.env a w I F) {t:TypeId} {parts:Array (Nat×Operand)} {K:AV→Prop}
  (hv:buildVc τ st t parts.toList K):∃ av v,K av∧Rl w.heap I F av true [v]∧∀ w',(Instr.build t (parts.map fun (i,x)=>(i,a.eval x))).run c.P w' = .ok v w':=by
 have hmap:(parts.map fun (i,x)=>(i,a.eval x)).toList = parts.toList.map fun (i,x)=>(i,a.eval x):=by simp
 unfold buildVc at hv
 split at hv
 ·rename_i s l hz hst
  obtain ⟨h1,h2⟩:=zero_parts hτ hz
  obtain ⟨fs,u1,u2,u3,u4⟩:=(hτ t).st l hst
  obtain ⟨z,_,hzc⟩:=h2 w
  obtain ⟨s',c',k1,k2,_,k4⟩:=parts_ok he parts.toList (AV.ofZ s) z.cells (by rw [hzc];exact ofZ_rl (g:=s) h1) hv
  refine ⟨_,.agg c',k1,⟨c'.toList,by simp,k2⟩,fun w'=>?_⟩
  obtain ⟨z',hr,hzc'⟩:=h2 w'
  have hzz:z'.cells = z.cells:=Array.toList_inj.1 (hzc'.trans hzc.symm)
  have hplaces:∀ (fs:List Field),(∀ f∈fs,(c.P.info? f.type).isSome = true)→∀ w',(fs.mapM (fun (f:Field)=>do pure (f.offset,←sizeOf f.type):Field→Sem (Nat×Nat))).run c.P w' =
    .ok (fs.map fun f=>(f.offset,c.P.cellsOf f.type)) w':=by
   intro fs
   induction fs with
   | nil=>intro _ w';simp
   | cons f fs ih =>
    intro hf w'
    have h5:=hf f List.mem_cons_self
    rw [Option.isSome_iff_exists] at h5
    obtain ⟨inf,h5⟩:=h5
    have:=ih (fun f hf'=>hf f (List.mem_cons_of_mem _ hf')) w'
    have h6:(sizeOf f.type).run c.P w' = .ok inf.size w':=by simp [sizeOf,typeInfo,h5]
    simp only [List.mapM_cons,Sem.run_bind,h6,Result.andThen_ok,Sem.run_pure,this]
    simp [Program.cellsOf,h5]
  have hpl:(fs.mapM (fun (f:Field)=>do pure (f.offset,←sizeOf f.type):Field→Sem (Nat×Nat))).run c.P w' = .ok (fs.map fun f=>(f.offset,c.P.cellsOf f.type)) w':=by
   rw [←Array.toArray_toList (xs:=fs),Array.mapM_eq_mapM_toList]
   simp only [Sem.run_map,hplaces fs.toList u3 w',Result.andThen_ok]
   congr 1
   apply Array.ext'
   simp
  have hplace:(fun (i:Nat)=>l[i]?) = fun (i:Nat)=>(fs.map fun f=>(f.offset,c.P.cellsOf f.type))[i]?:=by
   funext i
   rw [←u2];simp
  rw [hplace] at k4
  simp only [Instr.build,Sem.run_bind,hr,Result.andThen_ok,run_underlying u1,hpl,hmap,hzz,k4]
  rfl
 ·rename_i s n z hz hst har
  obtain ⟨h1,h2⟩:=zero_parts hτ hz
  obtain ⟨e,u1,inf,u2,u3⟩:=(hτ t).ar _ _ har
  obtain ⟨zz,_,hzc⟩:=h2 w
  obtain ⟨s',c',k1,k2,_,k4⟩:=parts_ok he parts.toList (AV.ofZ s) zz.cells (by rw [hzc];exact ofZ_rl (g:=s) h1) hv
  refine ⟨_,.agg c',k1,⟨c'.toList,by simp,k2⟩,fun w'=>?_⟩
  obtain ⟨z',hr,hzc'⟩:=h2 w'
  have hzz:z'.cells = zz.cells:=Array.toList_inj.1 (hzc'.trans hzc.symm)
  simp only [Instr.build,Sem.run_bind,hr,Result.andThen_ok,run_underlying u1,sizeOf,typeInfo,hmap,hzz]
  simp [u2,u3,k4]
 ·exact hv.elim
end Go.Vc

/- A part that keeps its header cells may be laid anew; a slice may be detached from its place. -/
namespace Go.Vc
set_option linter.all false
open T (hdr blk)
namespace T
theorem cells_setN_same {s:G} {k:Nat} {y:G} (h:k < s.len→y.cells = (s.nth k).cells):(s.setN k y).cells = s.cells:=by
 induction s generalizing k with
 | cons a t _ iht =>
  cases k with
  | zero=>simp only [setN,cells];rw [h (by simp [len])];rfl
  | succ k=>simp only [setN,cells];rw [iht fun hk=>h (by simpa [len] using hk)]
 | _=>simp [setN]
theorem cells_set_same {g x:G} {q:Path} (hk:g.okp q = true) (h:x.cells = (g.at_ q).cells):(g.set q x).cells = g.cells:=by
 induction q generalizing g with
 | nil=>exact h
 | cons st q ih =>
  cases g <;> cases st <;> simp only [okp,Bool.and_eq_true,decide_eq_true_eq] at hk <;> try cases hk
  case agg.f.intro s i hi hk =>
   simp only [T.set,cells]
   exact cells_setN_same fun _=>ih hk h
  all_goals rfl
def isVal:Path→Bool
 | .f 1 :: _=>true
 | _=>false
theorem aggy_set_same {v x:G} {p:Path} (ha:aggy x = aggy (v.at_ p)):aggy (v.set p x) = aggy v:=by
 cases p with
 | nil=>exact ha
 | cons st p=>exact aggy_set (by simp)
theorem entries_set_same {es:List MapEntry} {s:G} (h:entriesAre es s) {k:Nat} {p:Path} {x:G} (hk:(s.nth k).okp p = true) (hp:isVal p = true) (hx:x.cells = ((s.nth k).at_ p).cells) (ha:2≤p.length∨aggy x = aggy ((s.nth k).at_ p)) :
  entriesAre es (s.setN k ((s.nth k).set p x)):=by
 induction es generalizing s k with
 | nil=>cases s <;> simp_all [entriesAre,setN]
 | cons e es ih =>
  unfold entriesAre at h
  split at h
  ·simp_all
  ·rename_i e' es' kk v t he
   obtain ⟨rfl,rfl⟩:=(List.cons.injEq .. ▸ he:e = e'∧es = es')
   obtain ⟨h1,h2,h3⟩:=h
   cases k with
   | zero =>
    simp only [T.nth] at hk hx ha ⊢
    unfold isVal at hp
    split at hp
    ·rename_i p
     simp only [okp,Bool.and_eq_true,decide_eq_true_eq,T.nth] at hk
     simp only [T.at_,T.nth] at hx ha
     simp only [setN,T.set,T.nth,entriesAre]
     refine ⟨h1,?_,h3⟩
     rw [cells_set_same hk.2 hx]
     rcases ha with ha | ha
     ·rw [aggy_set (by rintro rfl;simp at ha)];exact h2
     ·rw [aggy_set_same ha];exact h2
    ·cases hp
   | succ k =>
    simp only [T.nth] at hk hx ha ⊢
    simp only [setN,entriesAre]
    exact ⟨h1,h2,ih h3 hk hx ha⟩
  ·exact h.elim
theorem width_of_cells {x y:G} (h:x.cells = y.cells):x.width = y.width:=by rw [←cells_length,←cells_length,h]
def noEntry {α:Type} (m:Bool) (g:T α):Path→Bool
 | []=>true
 | st :: p=>match g,st with
  | .agg s,.f i=>noEntry m (s.nth i) p
  | .sl _ _ _ s,.i k=>noEntry m (s.nth k) p
  | .box _ _ g,.d=>noEntry m g p
  | .map _ _ s,.i k=>isVal p && (m || decide (2≤p.length)) && noEntry m (s.nth k) p
  | _,_=>true
theorem noEntry_erase {α:Type} (m:Bool) (g:T α) (p:Path):noEntry m g.erase p = noEntry m g p:=by
 induction p generalizing g with
 | nil=>rfl
 | cons st p ih=>cases g <;> cases st <;> simp [noEntry,erase,←erase_nth,ih]
theorem Holds.set_same {m:Bool} {h h':Array Obj} {I I':Nat→Prop} {x:G} (hx:Holds h' I' x) (hi:∀ b,I b→h'[b]? = h[b]?) (hI:∀ b,I b→I' b) :
  ∀ {q:Path} {g:G},Holds h I g→g.okp q = true→noEntry m g q = true→x.cells = (g.at_ q).cells→(m = true→aggy x = aggy (g.at_ q))→(∀ b∈g.rest q,h'[b]? = h[b]?)→Holds h' I' (g.set q x):=by
 intro q
 induction q with
 | nil=>intro g _ _ _ _ _ _;exact hx
 | cons st q ih =>
  intro g H hk hn hc ha ho
  cases g <;> cases st <;> simp only [okp,Bool.and_eq_true,decide_eq_true_eq] at hk <;> try cases hk
  case agg.f.intro s i hi' hk =>
   simp only [rest] at ho
   exact Holds.setN (s:=s) H hi' (ih (Holds.nth (s:=s) H i) hk hn hc ha fun b hb=>ho b (by simp [hb])) (fun b hb=>ho b (by simp [hb])) hi hI
  case sl.i.intro own a z s k hi' hk =>
   obtain ⟨hown,hlt⟩:=hi'
   subst hown
   simp only [rest] at ho
   obtain ⟨H1,H2,H3,H4⟩:=H
   have hsub:=ih (Holds.nth H1 k) hk hn hc ha fun b hb=>ho b (by simp [hb])
   have hcs:(s.setN k ((s.nth k).set q x)).cells = s.cells:=cells_setN_same fun _=>cells_set_same hk hc
   have hws:((s.nth k).set q x).width = (s.nth k).width:=width_of_cells (cells_set_same hk hc)
   refine ⟨Holds.setN H1 hlt hsub (fun b hb=>ho b (by simp [hb])) hi hI,uni_setN H2 hws,(by intro h0;cases h0),?_⟩
   split at H4
   ·exact ⟨H4.1,H4.2.1,by rw [len_setN];exact H4.2.2⟩
   ·exact ⟨H4.1,H4.2.1,by rw [len_setN];exact H4.2.2⟩
   ·rename_i y n c
    obtain ⟨g1,g2,g3,g3',g4,row,e,fr,g6,gf,g7,g8⟩:=H4
    exact ⟨g1,by rw [len_setN];exact g2,g3,g3',(by intro h0;cases h0),row,e,fr,by rw [ho _ (by simp [blk])];exact g6,gf,g7,by rw [hcs];exact g8⟩
   ·exact H4.elim
  case box.d.intro own a g hown hk =>
   subst hown
   simp only [rest] at ho
   obtain ⟨H1,H3,H4⟩:=H
   have hsub:=ih H1 hk hn hc ha fun b hb=>ho b (by simp [hb])
   refine ⟨hsub,(by intro h0;cases h0),?_⟩
   split at H4
   ·rename_i y
    obtain ⟨g1,g4,gz,row,e,fr,g6,g8⟩:=H4
    exact ⟨g1,(by intro h0;cases h0),fun hh=>by rw [ho _ (by simp [blk])];exact gz hh,row,e,fr,by rw [ho _ (by simp [blk])];exact g6,by rw [cells_set_same hk hc];exact g8⟩
   ·exact H4.elim
  case map.i.intro own a s k hi' hk =>
   obtain ⟨hown,hlt⟩:=hi'
   subst hown
   simp only [rest] at ho
   obtain ⟨H1,H3,H4⟩:=H
   simp only [noEntry,Bool.and_eq_true,Bool.or_eq_true,decide_eq_true_eq] at hn
   have hsub:=ih (Holds.nth H1 k) hk hn.2 hc ha fun b hb=>ho b (by simp [hb])
   refine ⟨Holds.setN H1 hlt hsub (fun b hb=>ho b (by simp [hb])) hi hI,(by intro h0;cases h0),?_⟩
   split at H4
   ·rename_i r
    obtain ⟨g4,es,c,g6,g8,g9⟩:=H4
    exact ⟨(by intro h0;cases h0),es,c,by rw [ho _ (by simp [blk])];exact g6,entries_set_same g8 hk hn.1.1 hc (hn.1.2.elim (fun h=>.inr (ha h)) .inl),g9⟩
   ·exact H4.elim
end T
def St.detach (nb:Nat) (st:St) (k:Nat) (q:Path):St where
 env:=st.env.kill [(k,q)]
 X:=st.X.set k ((st.tree k).set q (.junk ())) ++ [(st.tree k).at_ q]
 κ:=(bif Nat.ble nb k then [] else [(k,q)]) ++ st.κ
 pl:=plKill [(k,q)] st.pl
def isNode {α:Type}:T α→Bool
 | .sl true _ _ _=>true
 | .box true _ _=>true
 | .map true _ _=>true
 | _=>false
theorem node_head {h:Array Obj} {I:Nat→Prop} {g:G} (H:T.Holds h I g) (hn:isNode g = true):∃ a,g.cells = [a]∧a.oneCell' = true:=by
 cases g with
 | sl o a z s=>exact ⟨a,rfl,H.one a (by simp [T.cells])⟩
 | box o a s=>exact ⟨a,rfl,H.one a (by simp [T.cells])⟩
 | map o a s=>exact ⟨a,rfl,H.one a (by simp [T.cells])⟩
 | _=>cases hn
theorem node_aggy {α:Type} {g:T α} (hn:isNode g = true):T.aggy g = false:=by
 cases g with
 | agg s=>exact absurd hn (by simp [isNode])
 | _=>rfl
theorem isNode_erase {α:Type} (g:T α):isNode g.erase = isNode g:=by
 cases g with
 | sl o a z s=>cases o <;> rfl
 | box o a s=>cases o <;> rfl
 | map o a s=>cases o <;> rfl
 | _=>rfl
theorem keep_any {g x:G} {k:Nat} {q:Path} (hw:x.width = (g.at_ q).width) (hk:g.okp q = true) :
  (∀ q',dead [(k,q)] k q' false = false→(g.set q x).loc q' = g.loc q')∧(∀ q',dead [(k,q)] k q' true = false→hdr ((g.set q x).at_ q') = hdr (g.at_ q')) ∧
   (∀ q' v,g.at_ q' = .junk v→dead [(k,q)] k q' true = false→(g.set q x).at_ q' = .junk v) :=
 ⟨fun q' hd=>T.loc_set hw (mpre_alive hd),fun q' hd=>T.hdr_set (mpre_alive' hd),fun q' v hj hd=>T.junk_set hk hj (mpre_alive' hd)⟩
theorem Rel.detach {c:Cx} {st:St} {a:Act} {w:World} (h:Rel c st a w) {k:Nat} {q:Path} (hlen:k < st.X.length) (hok:(st.tree k).okp q = true) (hn:isNode ((st.tree k).at_ q) = true)
  (hne:T.noEntry true (st.tree k) q = true) :
  Rel c (st.detach c.F0.length k q) a w∧∀ I F,Inv c st.X st.κ w I F→EnvOk st.env a w I F→PlOk st.pl w I F →
   ∃ F',Inv c (st.detach c.F0.length k q).X (st.detach c.F0.length k q).κ w I F'∧EnvOk (st.detach c.F0.length k q).env a w I F'∧PlOk (st.detach c.F0.length k q).pl w I F' ∧
    (∀ g,F[k]? = some g→F'[st.X.length]? = some (g.at_ q)∧∃ v,(g.at_ q).cells = [v]∧v.oneCell' = true∧F'[k]? = some (g.set q (.junk v)))∧(∀ (j:Nat) (f:G),F[j]? = some f→j≠k→F'[j]? = some f)∧(∀ av m vs,av.dies [(k,q)] = false→Rl w.heap I F av m vs→Rl w.heap I F' av m vs):=by
 have key:∀ I F,Inv c st.X st.κ w I F→EnvOk st.env a w I F→PlOk st.pl w I F →
   ∃ F',Inv c (st.detach c.F0.length k q).X (st.detach c.F0.length k q).κ w I F'∧EnvOk (st.detach c.F0.length k q).env a w I F'∧PlOk (st.detach c.F0.length k q).pl w I F' ∧
    (∀ g,F[k]? = some g→F'[st.X.length]? = some (g.at_ q)∧∃ v,(g.at_ q).cells = [v]∧v.oneCell' = true∧F'[k]? = some (g.set q (.junk v)))∧(∀ (j:Nat) (f:G),F[j]? = some f→j≠k→F'[j]? = some f)∧(∀ av m vs,av.dies [(k,q)] = false→Rl w.heap I F av m vs→Rl w.heap I F' av m vs):=by
  intro I F hi he hp
  have hFl:F.length = st.X.length:=by rw [←hi.erase];simp
  obtain ⟨g,hg⟩:∃ g,F[k]? = some g:=⟨F[k]'(by omega),List.getElem?_eq_getElem (by omega)⟩
  have ht:=hi.tree hg
  rw [ht] at hok hn hne
  rw [T.okp_erase] at hok
  rw [←T.erase_at,isNode_erase] at hn
  rw [T.noEntry_erase] at hne
  have hH:=hi.holds g (List.mem_of_getElem? hg)
  obtain ⟨v,hv,h1⟩:=node_head (hH.at_ q) hn
  have hc:(T.junk v:G).cells = (g.at_ q).cells:=by rw [hv];rfl
  have hw:(T.junk v:G).width = (g.at_ q).width:=T.width_of_cells hc
  have hset:T.Holds w.heap I (g.set q (.junk v)):=T.Holds.set_same (x:=.junk v) h1 (fun _ _=>rfl) (fun _ h=>h) hH hok hne hc (fun _=>by rw [node_aggy hn];rfl) (fun _ _=>rfl)
  have hcr:=fun b=>T.count_rest hok b
  have hcount:∀ b,(own (F.set k (g.set q (.junk v)) ++ [g.at_ q])).count b = (own F).count b:=fun b=>by
   have h2:=own_set hg (g.set q (.junk v)) b
   have h3:=(hcr b).1
   have h4:=(hcr b).2 (.junk v)
   simp only [T.owned,List.count_nil] at h4
   rw [own_append,own_one,List.count_append]
   omega
  have hmem:∀ b,b∈own (F.set k (g.set q (.junk v)) ++ [g.at_ q])↔b∈own F:=fun b=>by rw [mem_of_count,mem_of_count,hcount]
  obtain ⟨k1,k2,k3⟩:=keep_any (k:=k) hw hok
  have hkl:k < F.length:=by omega
  have S:Stp w w I I F (F.set k (g.set q (.junk v)) ++ [g.at_ q]) [(k,q)] c.F0.length:={
   holds:=fun g' hg'=>by
    rcases List.mem_append.1 hg' with h' | h'
    ·rcases List.mem_or_eq_of_mem_set h' with h' | h'
     ·exact hi.holds _ h'
     ·subst h';exact hset
    ·simp only [List.mem_singleton] at h';subst h';exact hH.at_ q
   nodup:=nodup_of_count fun b=>by rw [hcount];exact count_le_one hi.nodup b
   apart:=fun b hb=>hi.apart b ((hmem b).1 hb)
   mine:=fun b hb=>.inl ((hmem b).1 hb)
   lt:=fun b hb=>hi.lt b ((hmem b).1 hb)
   ilt:=hi.ilt
   heap:=fun _ _ _=>rfl
   size:=Nat.le_refl _
   os:=rfl
   tape:=rfl
   output:=rfl
   imono:=fun _ h=>h
   inew:=fun _ h=>.inl h
   keep:=fun j f hf=>by
    have hjl:j < F.length:=(List.getElem?_eq_some_iff.1 hf).1
    by_cases e:k = j
    ·subst e
     rw [hg] at hf;cases hf
     refine ⟨g.set q (.junk v),?_,fun _=>T.cells_set_same hok hc,k1,k2,k3⟩
     rw [List.getElem?_append_left (by simp;omega),List.getElem?_set_self hkl]
    ·refine ⟨f,?_,fun _=>rfl,fun _ _=>rfl,fun _ _=>rfl,fun _ _ h _=>h⟩
     rw [List.getElem?_append_left (by simp;omega),List.getElem?_set_ne e];exact hf }
  refine ⟨F.set k (g.set q (.junk v)) ++ [g.at_ q],?_,he.step hi S,hp.step hi S,fun g' hg'=>?_,fun j f hj hne=>?_,fun av m vs hd H=>Rl.step hi S hd H⟩
  ·have h2:=hi.step S
   rw [List.map_append,List.map_set,hi.erase,T.erase_set,←ht,List.map_cons,List.map_nil,T.erase_at,←ht,show (T.junk v:G).erase = .junk () from rfl] at h2
   cases hb:Nat.ble c.F0.length k with
   | false=>simpa [St.detach,hb] using h2
   | true =>
    have:=h2.unkill fun j p s hj=>by
     have:=Nat.le_of_ble_eq_true hb
     have:(j == k) = false:=by simp;omega
     simp [dead,this]
    simpa [St.detach,hb] using this
  ·rw [hg] at hg';cases hg'
   refine ⟨?_,v,hv,h1,?_⟩
   ·rw [←hFl,List.getElem?_append_right (by simp),List.length_set,Nat.sub_self]
    rfl
   ·rw [List.getElem?_append_left (by simpa using hkl),List.getElem?_set_self hkl]
  ·rw [List.getElem?_append_left (by simpa using (List.getElem?_eq_some_iff.1 hj).1),List.getElem?_set_ne (Ne.symm hne)];exact hj
 obtain ⟨h1,h2,I,F,hi,he,hp⟩:=h
 obtain ⟨F',g1,g2,g3,_⟩:=key I F hi he hp
 exact ⟨⟨h1,h2,I,F',g1,g2,g3⟩,key⟩
end Go.Vc

/- Appends on states: their conditions, and that they hold. -/
namespace Go.Vc
set_option linter.all false
open T (hdr blk)
structure Sc where
 u:D
 m:Nat
 X:List D
 κ:List (Nat×Path)
def AV.src (nb z:Nat) (X:List D):AV→Option Sc
 | .nils _=>some ⟨.nil,0,X,[]⟩
 | .imm z' s _=>if z' = z then some ⟨s,s.len,X,[]⟩ else none
 | .sub k q lo n _ =>
  match (X.getD k .nil).at_ q with
  | .sl _ () z' s =>
   if z' = z then
    bif (s.mid lo n).free then some ⟨s.mid lo n,n,X,[]⟩
    else match q with
     | []=>bif Nat.ble nb k then some ⟨s.mid lo n,n,X.set k (.junk ()),[(k,[])]⟩ else none
     | _=>none
   else none
  | _=>none
 | _=>none
theorem src_ok {h:Array Obj} {I:Nat→Prop} {nb z:Nat} {F:List G} {av:AV} {v:Value} {r:Sc} (hF:∀ g∈F,T.Holds h I g) (hv:Rl h I F av true [v]) (hr:av.src nb z (F.map T.erase) = some r) :
  ∃ F1 x o A c,F1.map T.erase = r.X∧x.erase = r.u∧v = .slice A r.m c∧T.Holds h I (.sl o v z x)∧(∀ g∈F1,T.Holds h I g) ∧
   (∀ b,x.owned.count b + (own F1).count b≤(own F).count b)∧KeepR nb F F1 r.κ:=by
 cases av with
 | nils z0 =>
  simp only [AV.src,Option.some.injEq] at hr
  subst hr
  cases hv
  exact ⟨F,.nil,true,none,0,rfl,rfl,rfl,⟨trivial,trivial,(fun _=>rfl),rfl,rfl,rfl⟩,hF,fun b=>by simp [T.owned],KeepR.refl _ _⟩
 | imm z' s ex =>
  simp only [AV.src] at hr
  split at hr
  ·rename_i hz
   subst hz
   simp only [Option.some.injEq] at hr
   subst hr
   obtain ⟨v',h1,s',h2,h3,h4⟩:=hv
   cases h1
   subst h2
   obtain ⟨A,n,c,rfl,hn⟩:∃ A n c,v = .slice A n c∧n = s'.len:=by
    have h6:=h3.2.2.2
    split at h6
    ·exact ⟨_,_,_,rfl,by omega⟩
    ·exact ⟨_,_,_,rfl,by omega⟩
    ·exact ⟨_,_,_,rfl,h6.2.1⟩
    ·exact h6.elim
   exact ⟨F,s',false,A,c,rfl,rfl,by rw [hn,T.erase_len],h3,hF,fun b=>by rw [T.owned_free (h3.2.2.1 rfl)];simp,KeepR.refl _ _⟩
  ·cases hr
 | sub k q lo n ex =>
  simp only [AV.src] at hr
  obtain ⟨own0,a0,z0,len0,v',hd,h1,hs⟩:=hv
  cases h1
  unfold hdrF at hd
  cases hg:F[k]? with
  | none=>rw [hg] at hd;simp at hd
  | some g =>
   rw [hg] at hd
   simp only [Option.bind_some] at hd
   have hgm:=List.mem_of_getElem? hg
   have hH:=hF g hgm
   have hgd:(F.map T.erase).getD k .nil = g.erase:=by rw [List.getD_eq_getElem?_getD,List.getElem?_map,hg];rfl
   rw [hgd,←T.erase_at] at hr
   cases hgq:g.at_ q with
   | sl o' a' z' s' =>
    rw [hgq] at hr hd
    simp only [hdr,Option.some.injEq,Prod.mk.injEq] at hd
    obtain ⟨rfl,rfl,rfl,rfl⟩:=hd
    simp only [T.erase] at hr
    split at hr
    ·rename_i hz
     subst hz
     have hHq:=hH.at_ q
     rw [hgq] at hHq
     obtain ⟨hst,hln⟩:=T.Holds.stretch hHq hs
     obtain ⟨A,c,hvv,_⟩:=id hs
     rw [←T.erase_mid,T.erase_free] at hr
     cases hfr:(s'.mid lo n).free with
     | true =>
      rw [hfr] at hr
      simp only [cond_true,Option.some.injEq] at hr
      subst hr
      exact ⟨F,s'.mid lo n,_,A,c,rfl,rfl,hvv,hst,hF,fun b=>by rw [T.owned_free hfr];simp,KeepR.refl _ _⟩
     | false =>
      rw [hfr] at hr
      simp only [cond_false] at hr
      cases q with
      | cons st q=>cases hr
      | nil =>
       simp only at hr
       cases hb:Nat.ble nb k with
       | false=>rw [hb] at hr;cases hr
       | true =>
        rw [hb] at hr
        simp only [cond_true,Option.some.injEq] at hr
        subst hr
        simp only [T.at_] at hgq
        subst hgq
        have hone:a'.oneCell' = true:=hH.one a' (by simp [T.cells])
        refine ⟨F.set k (.junk a'),s'.mid lo n,_,A,c,by rw [List.map_set];rfl,rfl,hvv,hst,fun g' hg'=>?_,fun b=>?_,?_⟩
        ·rcases List.mem_or_eq_of_mem_set hg' with h1 | h1
         ·exact hF _ h1
         ·subst h1;exact hone
        ·have h5:=own_set hg (.junk a') b
         have h6:=(T.owned_mid s' lo n).count_le b
         simp only [T.owned,List.count_nil] at h5
         cases o' with
         | true=>simp only [T.owned,List.count_append] at h5;omega
         | false =>
          have h7:=T.owned_free (T.free_mid (hH.2.2.1 rfl) lo n)
          rw [h7] at h6 ⊢
          simp only [T.owned,List.count_nil] at h5 ⊢;omega
        ·refine ⟨fun e he=>by simp only [List.mem_singleton] at he;subst he;rfl,fun j g' hg'=>?_⟩
         by_cases hj:k = j
         ·subst hj
          have hlt:k < F.length:=(List.getElem?_eq_some_iff.1 hg').1
          exact ⟨.junk a',by simp [hlt],.inr ⟨⟨a',rfl⟩,by simp [dead,mpre],Nat.le_of_ble_eq_true hb⟩⟩
         ·exact ⟨g',by rw [List.getElem?_set_ne hj];exact hg',.inl rfl⟩
    ·cases hr
   | _=>rw [hgq] at hr;simp [T.erase] at hr
 | _=>simp [AV.src] at hr
theorem src_bases {nb z:Nat} {X:List D} {av:AV} {r:Sc} (hr:av.src nb z X = some r) {k:Nat} {q:Path} {s:Bool} (hk:k < nb):dead r.κ k q s = false:=by
 have one:∀ {nb j k:Nat} {q:Path} {s:Bool},k < nb→Nat.ble nb j = true→dead [(j,[])] k q s = false:=by
  intro nb j k q s h1 h2
  have:=Nat.le_of_ble_eq_true h2
  have:(k == j) = false:=by simp;omega
  simp [dead,this]
 cases av with
 | nils _=>simp only [AV.src,Option.some.injEq] at hr;subst hr;rfl
 | imm _ _ _=>simp only [AV.src] at hr;split at hr <;> simp at hr;subst hr;rfl
 | sub k' q' lo n ex =>
  simp only [AV.src] at hr
  split at hr
  ·split at hr
   ·rename_i s' _ _
    cases hfr:(s'.mid lo n).free with
    | true=>rw [hfr] at hr;simp only [cond_true,Option.some.injEq] at hr;subst hr;rfl
    | false =>
     rw [hfr] at hr;simp only [cond_false] at hr
     cases q' with
     | cons _ _=>cases hr
     | nil =>
      simp only at hr
      cases hb:Nat.ble nb k' with
      | false=>rw [hb] at hr;cases hr
      | true=>rw [hb] at hr;simp only [cond_true,Option.some.injEq] at hr;subst hr;exact one hk hb
   ·cases hr
  ·cases hr
 | _=>simp [AV.src] at hr
def fits (n m by_:Nat):Prop:=(n + m) * by_≤140737488355328∧n + m≤2 ^ 63 - 1
def appRoot (nb z by_:Nat) (st:St) (j lo n:Nat) (x:AV) (K:AV→St→Prop):Prop :=
 match x.src nb z st.X with
 | none=>False
 | some r=>match r.X[j]? with
  | some (.sl true () z' s)=>z' = z∧Nat.ble nb j = true∧fits n r.m by_ ∧
    K (.sub j [] 0 (n + r.m) false) { st with env:=st.env.kill (r.κ ++ [(j,[])]),X:=r.X.set j (.sl true () z ((s.mid lo n).app r.u)),pl:=plKill (r.κ ++ [(j,[])]) st.pl }
  | _=>False
theorem Rel.appRoot {c:Cx} {τ:Tab} (hτ:Tab.Ok c.P τ) {st:St} {a:Act} {w:World} {I:Nat→Prop} {F:List G} (hd:Dfs c.w0.heap.size a.defers w) (hs:a.tmps.size = c.nt) (hi:Inv c st.X st.κ w I F)
  (he:EnvOk st.env a w I F) (hp:PlOk st.pl w I F) {t ty:TypeId} {e z by_:Nat} {zv:Value} (ht:(τ t).sl = some (e,z,by_,zv)) {j lo n:Nat} {ex:Bool} {x:AV} {v vx:Value}
  (hv:Rl w.heap I F (.sub j [] lo n ex) true [v]) (hx:Rl w.heap I F x true [vx]) {K:AV→St→Prop} (hK:Vc.appRoot c.F0.length z by_ st j lo n x K) :
  ∃ av st' v' w',K av st'∧(Builtin.append_ #[t,t] ty #[v,vx]).run c.P w = .ok v' w'∧RelR c st' av v' a w':=by
 unfold Vc.appRoot at hK
 cases hr:x.src c.F0.length z st.X with
 | none=>rw [hr] at hK;exact hK.elim
 | some r =>
  rw [hr] at hK
  simp only at hK
  rw [←hi.erase] at hr
  obtain ⟨F1,x',o2,A2,c2,s1,s2,s3,s4,s5,s6,s7⟩:=src_ok hi.holds hx hr
  split at hK
  ·rename_i z' s0 hj
   obtain ⟨rfl,hjb,⟨hf1,hf2⟩,hK⟩:=hK
   have hjb:=Nat.le_of_ble_eq_true hjb
   obtain ⟨u1,inf,u2,u3,u4,u5,u6⟩:=(hτ t).sl _ _ _ _ ht
   rw [←s1,List.getElem?_map] at hj
   cases hg:F1[j]? with
   | none=>rw [hg] at hj;cases hj
   | some g =>
    rw [hg] at hj
    simp only [Option.map_some,Option.some.injEq] at hj
    cases g with
    | sl o a0 z0 s =>
     simp only [T.erase,T.sl.injEq] at hj
     obtain ⟨rfl,_,rfl,rfl⟩:=hj
     obtain ⟨own0,a1,z1,len1,v',hdd,h1,hsub⟩:=hv
     cases h1
     have hsame:F[j]? = some (.sl true a0 z0 s):=by
      unfold hdrF at hdd
      cases hgf:F[j]? with
      | none=>rw [hgf] at hdd;simp at hdd
      | some f =>
       obtain ⟨f1,h2,h3⟩:=s7.2 j f hgf
       rw [hg] at h2
       cases h2
       rcases h3 with h3 | ⟨⟨a',h3⟩,_⟩
       ·rw [←h3]
       ·cases h3
     simp only [hdrF,hsame,Option.bind_some,T.at_,hdr,Option.some.injEq,Prod.mk.injEq] at hdd
     obtain ⟨rfl,rfl,rfl,rfl⟩:=hdd
     have hHj:=hi.holds _ (List.mem_of_getElem? hsame)
     obtain ⟨hst,hln⟩:=T.Holds.stretch hHj hsub
     obtain ⟨A,cap,rfl,q1,q2,q3,q4,q5⟩:=id hsub
     subst s3
     rw [←u4] at hst s4
     have hmidsub:=T.owned_mid s lo n
     have hjmem:∀ b∈s.owned,b∈own F1:=fun b hb=>own_mem hg (by simp [T.owned,hb])
     have hlow:∀ b∈(s.mid lo n).owned ++ x'.owned,b < w.heap.size:=fun b hb=>by
      rcases List.mem_append.1 hb with hb | hb
      ·have h6:=s6 b
       have h7:=hjmem b (hmidsub.subset hb)
       exact hi.lt b (by rw [mem_of_count] at *;omega)
      ·have h6:=s6 b
       exact hi.lt b (by rw [mem_of_count] at *;omega)
     have hAown:∀ a,A = some a→0 < cap→blk a0 = [a.block]:=fun a ha h0=>by
      subst ha
      split at q5
      ·cases q5.1
      ·rename_i x0 n0 cap0
       obtain ⟨y,hy,_,hyb,hle,_⟩:=q5
       cases hy
       obtain ⟨cap0,rfl⟩:∃ k,cap0 = k + 1:=⟨cap0 - 1,by omega⟩
       simp [blk,hyb]
      ·exact q5.elim
     obtain ⟨v',w',r1,r2,r3,r4,r5,r6,⟨A',c',r7⟩,r8,r9,r10⟩:=append_node (P:=c.P) w (ty:=ty) u1 u2 u3 hst s4 (by rw [u6,u4]) hi.ilt
      (fun hle0 hm0 a ha=>by
       have h2:=hAown a ha (by omega)
       have h3:a.block∈own F:=own_mem hsame (by simp [T.owned,h2])
       have h4:=count_le_one hi.nodup a.block
       have h5:=own_set hsame (.junk a0) a.block
       have h6:=s6 a.block
       have h8:=own_set hg (.junk a0) a.block
       have h9:=hmidsub.count_le a.block
       simp only [T.owned,List.count_nil,List.count_append,h2,List.count_singleton_self] at h5 h8
       refine ⟨hi.apart _ h3,fun hm=>?_,fun hm=>?_⟩
       ·rw [mem_of_count] at hm;omega
       ·rw [mem_of_count] at hm;omega)
      hlow (by rw [u5];exact hf1) hf2
     have hnode:=r10 fun _=>rfl
     rw [u4] at hnode
     subst r7
     have hcnt:(T.sl true (.slice A' (n + r.m) c') z0 ((s.mid lo n).app x'):G).owned = blk (.slice A' (n + r.m) c') ++ ((s.mid lo n).owned ++ x'.owned):=by
      simp only [T.owned];rw [T.owned_app hst.2.1]
     have S:=Stp.setRoot (κ:=st.κ) hi s7 s5 (ext:=x'.owned) s6 hg hjb hnode
      (fun b hb=>by
       rw [hcnt]
       have h9:=hmidsub.count_le b
       simp only [T.owned,List.count_append]
       by_cases hle:n + r.m≤cap
       ·obtain ⟨h10,_⟩:=r9 hle
        cases h10
        cases A with
        | none=>simp only [blk,List.count_nil];omega
        | some y =>
         have h13:=T.blk_some y (n + r.m) cap b
         rcases Nat.eq_zero_or_pos cap with h0 | h0
         ·subst h0;simp only [blk,List.count_nil];omega
         ·have h12:=hAown y rfl h0;rw [h12];omega
       ·obtain ⟨cc,h10,_⟩:=r8 (by omega)
        cases h10
        have:([w.heap.size]:List Nat).count b = 0:=List.count_eq_zero.2 (by simp;omega)
        have h13:=T.blk_some ⟨w.heap.size,0,none⟩ (n + r.m) c' b
        simp only at h13;omega)
      (fun b hb=>by
       rw [hcnt]
       have h2:((s.mid lo n).owned ++ x'.owned).count b = 0:=List.count_eq_zero.2 fun hm=>by have:=hlow b hm;omega
       simp only [List.count_append] at h2 ⊢
       have:(blk (.slice A' (n + r.m) c')).count b≤1:=by
        cases A' with
        | none=>simp [blk]
        | some y=>exact Nat.le_trans (T.blk_some y _ _ b) List.count_le_length
       omega)
      (fun b hb=>by
       rw [hcnt] at hb
       rcases List.mem_append.1 hb with hb | hb
       ·by_cases hle:n + r.m≤cap
        ·obtain ⟨h10,h11⟩:=r9 hle
         cases h10
         cases A with
         | none=>simp [blk] at hb
         | some y =>
          obtain ⟨hb,h0⟩:=T.mem_blk hb
          have h2:=hAown y rfl h0
          subst hb
          rw [h11]
          exact hi.lt _ (own_mem hsame (by simp [T.owned,h2]))
        ·obtain ⟨cc,h10,h11⟩:=r8 (by omega)
         cases h10
         have hb:=(T.mem_blk hb).1
         simp only at hb
         omega
       ·have:=hlow b hb;omega)
      (fun b hb hn=>r6 b hb fun a ha hle0 hm0 e'=>hn (by simp [T.owned,hAown a ha (by omega),e']))
      r5 r2 r3 r4
     have hsubr:SubRel (.slice A' (n + r.m) c') z0 ((s.mid lo n).app x').len 0 (n + r.m) false (.slice A' (n + r.m) c'):=by
      have hl:=Holds_sl_nil hnode
      have hl2:((s.mid lo n).app x').len = n + r.m:=by
       have h11:=(slice_cells rfl s4).1
       rw [T.len_app,hln,←h11]
      rw [hl2] at hl ⊢
      exact hl
     have hjl:j < F1.length:=(List.getElem?_eq_some_iff.1 hg).1
     refine ⟨_,_,_,w',hK,r1,?_⟩
     have hfin:=Rel.of_step hd hs hi he hp S (av:=.sub j [] 0 (n + r.m) false) (v:=.slice A' (n + r.m) c')
      ⟨true,_,z0,_,_,by simp [hdrF,hjl,T.at_,hdr],rfl,hsubr⟩
     obtain ⟨f1,f2,I',F',f3,f4,f5,f6⟩:=hfin
     refine ⟨f1,f2,I',F',?_,f4,f5,f6⟩
     have h12:(F1.set j (.sl true (.slice A' (n + r.m) c') z0 ((s.mid lo n).app x'))).map T.erase = r.X.set j (.sl true () z0 (((s.erase).mid lo n).app r.u)):=by
      rw [List.map_set,s1]
      simp only [T.erase,T.erase_app,T.erase_mid,s2]
     simp only [St.step,h12] at f3
     have h13:=f3.unkill (κ':=r.κ ++ [(j,[])]) fun k' q' s' hk'=>by
      rw [dead_append]
      have h14:dead [(j,[])] k' q' s' = false:=by
       have:(k' == j) = false:=by simp;omega
       simp [dead,this]
      rw [h14,Bool.or_false]
      exact src_bases hr hk'
     exact h13
    | _=>simp [T.erase] at hj
  ·exact hK.elim
end Go.Vc
