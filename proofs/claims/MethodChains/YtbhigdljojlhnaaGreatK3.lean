/- Conditions of code: each rule, over states. -/
import Derived.Test.YtbhigdljojlhnaaGreatK2
import Derived.RangeFuncLeaves
import Derived.RangeFuncRecord
import Derived.Orders
import Derived.IntWalk
import Derived.Below
import Derived.RangeFuncCalls
import Derived.TacticsIn
import Derived.RangeFuncSeq
import Derived.RangeFuncOwn
import Derived.KernelRfl
namespace Go.Vc
set_option linter.all false
open T (hdr blk)
def VC (c:Cx) (code:Code) (K:Exit→St→Prop) (st:St):Prop :=
 ∀ a w,Rel c st a w→code.wp c.P (fun e a w=>∃ st',K e st'∧Rel c st' a w) a w
theorem VC.mono {c:Cx} {code:Code} {K K':Exit→St→Prop} {st:St} (h:VC c code K st) (hk:∀ e st,K e st→K' e st):VC c code K' st :=
 fun a w hr=>wp_mono (h a w hr) fun _ _ _ ⟨st',h1,h2⟩=>⟨st',hk _ _ h1,h2⟩
def thenK (next:St→Prop) (K:Exit→St→Prop):Exit→St→Prop
 | .normal,st=>next st
 | e,st=>K e st
theorem VC.seq {c:Cx} {x y:Code} {K:Exit→St→Prop} {st:St} (h:VC c x (thenK (VC c y K) K) st):VC c (.seq x y) K st :=
 fun a w hr=>wp_seq (wp_mono (h a w hr) fun e a w ⟨st',h1,h2⟩=>by
  cases e with
  | normal=>exact h1 a w h2
  | _=>exact ⟨st',h1,h2⟩)
theorem VC.mid {c:Cx} {x y:Code} {K:Exit→St→Prop} {st:St} (M:St→Prop) (h:VC c x (thenK M K) st) (h2:∀ st,M st→VC c y K st):VC c (.seq x y) K st :=
 VC.seq (h.mono fun e st hk=>by cases e <;> first | exact h2 st hk | exact hk)
theorem VC.skip {c:Cx} {K:Exit→St→Prop} {st:St} (h:K .normal st):VC c .skip K st:=fun _ _ hr=>wp_skip ⟨st,h,hr⟩
theorem VC.ret {c:Cx} {K:Exit→St→Prop} {st:St} (h:K .ret st):VC c .ret K st:=fun _ _ hr=>wp_ret ⟨st,h,hr⟩
theorem VC.exit {c:Cx} {K:Exit→St→Prop} {st:St} {id:Nat} (h:K (.exit id) st):VC c (.exit id) K st:=fun _ _ hr=>wp_exit ⟨st,h,hr⟩
def regOk (nt:Nat) (ops:List Oper) (gs:List (Nat×Tmp)):Bool:=dstsOk nt ops && gsOk ops gs
theorem VC.region {c:Cx} {τ:Tab} (hτ:Tab.Ok c.P τ) {id:Nat} {ops:List Oper} {K:Exit→St→Prop} {st:St} (gs:List (Nat×Tmp)) (hd:regOk c.nt ops gs = true)
  (h:vcOps c τ gs ops 0 st (K .normal)):VC c (.region id ops.toArray false) K st:=fun a w hr=>by
 simp only [regOk,Bool.and_eq_true] at hd
 refine wp_region_list ?_
 have:=ops_ok (Q:=fun e a w=>∃ st',K e st'∧Rel c st' a w) hτ hd.2 (fun st a w h1 h2=>⟨st,h1,h2⟩) ops 0 st a w hd.1 hr h
 simpa using this
def condVc (av:AV) (t f:Prop):Prop :=
 match av with
 | .val (.bool b)=>(b = true→t)∧(b = false→f)
 | _=>False
theorem VC.cond {c:Cx} {x:Operand} {t f:Code} {K:Exit→St→Prop} {st:St} (h:condVc (st.ev x) (VC c t K st) (VC c f K st)):VC c (.cond x t f) K st:=fun a w hr=>by
 obtain ⟨hd,hs,I,F,hi,he,hp⟩:=id hr
 unfold condVc at h
 split at h
 ·rename_i b hx
  have hv:=he.ev x
  rw [hx] at hv
  obtain ⟨hv,_⟩:=hv
  injection hv with hv _
  exact wp_cond_split hv (fun hb=>h.1 hb a w hr) (fun hb=>h.2 hb a w hr)
 ·exact h.elim
def blockK (id:Nat) (K:Exit→St→Prop):Exit→St→Prop
 | .exit j,st=>if j = id then K .normal st else K (.exit j) st
 | e,st=>K e st
theorem VC.block {c:Cx} {id:Nat} {x:Code} {K:Exit→St→Prop} {st:St} (h:VC c x (blockK id K) st):VC c (.block id x) K st:=fun a w hr=>by
 refine wp_block (wp_mono (h a w hr) fun e a w ⟨st',h1,h2⟩=>?_)
 cases e <;> simp only [Exit.inBlock,blockK] at *
 case exit j =>
  split at h1
  ·rename_i hj;rw [if_pos hj];exact ⟨st',h1,h2⟩
  ·rename_i hj;rw [if_neg hj];exact ⟨st',h1,h2⟩
 all_goals exact ⟨st',h1,h2⟩
theorem exists_least {p:Nat→Prop} (h:∃ n,p n):∃ n,p n∧∀ m,p m→n≤m:=by
 obtain ⟨n,hn⟩:=h
 induction n using Nat.strongRecOn with
 | _ n ih =>
  by_cases hm:∃ m,m < n∧p m
  ·obtain ⟨m,h1,h2⟩:=hm;exact ih m h1 h2
  ·exact ⟨n,hn,fun m hp=>by
    rcases Nat.lt_or_ge m n with h | h
    ·exact absurd ⟨m,h,hp⟩ hm
    ·exact h⟩
theorem VC.loop {c:Cx} {x:Code} {K:Exit→St→Prop} {st:St} (J:Nat→St→Prop) (h0:∃ n,J n st) (hr:∀ n st,J n st→VC c x (thenK (fun st'=>∃ m,m < n∧J m st') K) st) :
  VC c (.loop x) K st:=fun a w hrel=>by
 let p:Act→World→Nat→Prop:=fun a w n=>∃ st,J n st∧Rel c st a w
 have hex:∀ a w,(∃ n,p a w n)→∃ n,p a w n∧∀ m,p a w m→n≤m:=fun a w h=>exists_least h
 let μ:Act→World→Nat:=fun a w=>@dite _ (∃ n,p a w n) (Classical.propDecidable _) (fun h=>Classical.choose (hex a w h)) (fun _=>0)
 have hμ:∀ a w (h:∃ n,p a w n),p a w (μ a w)∧∀ m,p a w m→μ a w≤m:=fun a w h=>by
  have:=Classical.choose_spec (hex a w h)
  simp only [μ,dif_pos h]
  exact this
 obtain ⟨n,hn⟩:=h0
 refine wp_loop (fun a w=>∃ n,p a w n) μ ⟨n,st,hn,hrel⟩ fun a w hI=>?_
 obtain ⟨⟨st,hJ,hrel⟩,_⟩:=hμ a w hI
 refine wp_mono (hr _ st hJ a w hrel) fun e a' w' ⟨st',h1,h2⟩=>?_
 cases e with
 | normal =>
  obtain ⟨m,hm,hJ'⟩:=h1
  have hI':∃ n,p a' w' n:=⟨m,st',hJ',h2⟩
  exact ⟨hI',Nat.lt_of_le_of_lt ((hμ a' w' hI').2 m ⟨st',hJ',h2⟩) hm⟩
 | _=>exact ⟨st',h1,h2⟩
theorem VC.ghost {c:Cx} {code:Code} {K:Exit→St→Prop} {st st':St} (hg:∀ a w,Rel c st a w→Rel c st' a w) (h:VC c code K st'):VC c code K st :=
 fun a w hr=>h a w (hg a w hr)
end Go.Vc

/- What a function does, said of trees that are handed to it; and a call, where those trees lie at places of the caller's. -/
namespace Go.Vc
set_option linter.all false
open T (hdr blk)
def Meets (P:Program) (f:FuncId) (Y:List D) (args:AV) (R:AV→List D→List (Nat×Path)→Prop):Prop :=
 HasBody P f∧∀ (w:World) (I:Nat→Prop) (F0:List G) (vs:List Value),F0.map T.erase = Y→(∀ g∈F0,T.Holds w.heap I g)→(own F0).Nodup→(∀ b∈own F0,¬ I b)→(∀ b∈own F0,b < w.heap.size) →
  (∀ b,I b→b < w.heap.size)→Rl w.heap I F0 args true vs →
  Calls P f vs.toArray w fun e w'=>∃ v av X κ I' F',e = .returned v∧R av X κ∧Inv ⟨P,0,w,I,F0⟩ X κ w' I' F'∧Rl w'.heap I' F' av true [v]
def back {α:Type}:List (Nat×Path)→List (T α)→List (T α)→List (T α)
 | (k,p) :: pls,x :: xs,F=>back pls xs (F.set k ((F.getD k .nil).set p x))
 | _,_,F=>F
def embK (pls:List (Nat×Path)) (n0 i:Nat):Nat×Path :=
 match pls[i]? with
 | some e=>e
 | none=>(n0 + (i - pls.length),[])
def AV.emb (pls:List (Nat×Path)) (n0:Nat):AV→AV
 | .ptr i q=>.ptr (embK pls n0 i).1 ((embK pls n0 i).2 ++ q)
 | .sub i q lo n ex=>.sub (embK pls n0 i).1 ((embK pls n0 i).2 ++ q) lo n ex
 | .mp i q=>.mp (embK pls n0 i).1 ((embK pls n0 i).2 ++ q)
 | .cons a t=>.cons (a.emb pls n0) (t.emb pls n0)
 | .agg s=>.agg (s.emb pls n0)
 | .tup s=>.tup (s.emb pls n0)
 | .fn f s=>.fn f (s.emb pls n0)
 | a=>a
def AV.okArg (nb:Nat):AV→Bool
 | .ptr i q=>Nat.blt i nb && !q.isEmpty
 | .sub i _ _ _ _=>Nat.blt i nb
 | .mp i _=>Nat.blt i nb
 | .cons a t=>a.okArg nb && t.okArg nb
 | .agg s=>s.okArg nb
 | .tup s=>s.okArg nb
 | .fn _ s=>s.okArg nb
 | _=>true
def isHead {α:Type}:T α→Bool
 | .sl _ _ _ _=>true
 | .box _ _ _=>true
 | .map _ _ _=>true
 | _=>false
def placesOk (st:St):List (Nat×Path)→List D→Prop
 | [],[]=>True
 | (k,p) :: pls,y :: Y=>k < st.X.length∧(st.tree k).okp p = true∧T.noEntry false (st.tree k) p = true∧isHead y = true∧(st.tree k).at_ p = y∧placesOk st pls Y
 | _,_=>False
def mapK (pls:List (Nat×Path)) (κ:List (Nat×Path)):List (Nat×Path) :=
 κ.filterMap fun (i,q)=>(pls[i]?).map fun (k,p)=>(k,p ++ q)
def St.after (nb:Nat) (st:St) (pls:List (Nat×Path)) (X:List D) (κ:List (Nat×Path)):St where
 env:=st.env.kill (mapK pls κ)
 X:=back pls (X.take pls.length) st.X ++ X.drop pls.length
 κ:=(mapK pls κ).filter (fun e=>Nat.blt e.1 nb) ++ st.κ
 pl:=plKill (mapK pls κ) st.pl
namespace T
theorem loc_below_abs {g:G} {p r:Path} (hk:g.okp p = true) {b o:Nat} (h:(g.at_ p).loc r = some (.abs b o)):g.loc (p ++ r) = some (.abs b o):=by
 induction p generalizing g with
 | nil=>exact h
 | cons st p ih =>
  cases g <;> cases st <;> simp only [okp,Bool.and_eq_true,decide_eq_true_eq] at hk <;> try cases hk
  case agg.f.intro s i hi hk=>simp only [List.cons_append,loc,if_pos hi,ih hk h]
  case sl.i.intro own a z s k hi hk=>simp only [List.cons_append,loc,if_pos hi.2,ih hk h]
  case box.d.intro own a g ho hk=>simp only [List.cons_append,loc,ih hk h]
  case map.i.intro own a s k hi hk=>simp only [List.cons_append,loc,if_pos hi.2,ih hk h]
theorem loc_below_none {g:G} {p r:Path} (hk:g.okp p = true) (h:(g.at_ p).loc r = none):g.loc (p ++ r) = none:=by
 induction p generalizing g with
 | nil=>exact h
 | cons st p ih =>
  cases g <;> cases st <;> simp only [okp,Bool.and_eq_true,decide_eq_true_eq] at hk <;> try cases hk
  case agg.f.intro s i hi hk=>simp only [List.cons_append,loc,if_pos hi,ih hk h]
  case sl.i.intro own a z s k hi hk=>simp only [List.cons_append,loc,if_pos hi.2,ih hk h]
  case box.d.intro own a g ho hk=>simp only [List.cons_append,loc,ih hk h]
  case map.i.intro own a s k hi hk=>simp only [List.cons_append,loc,if_pos hi.2,ih hk h]
theorem loc_head {g:G} (hh:isHead g = true) {r:Path} (hr:r≠[]):g.loc r = none∨∃ b o,g.loc r = some (.abs b o):=by
 cases r with
 | nil=>exact absurd rfl hr
 | cons st r =>
  cases g <;> cases st <;> simp only [isHead] at hh <;> try cases hh
  all_goals
   simp only [loc]
   first
   | exact .inl rfl
   | (repeat' split) <;> simp
theorem loc_below {g:G} {p r:Path} (hk:g.okp p = true) (hh:isHead (g.at_ p) = true) (hr:r≠[]):g.loc (p ++ r) = (g.at_ p).loc r:=by
 rcases loc_head hh hr with h | ⟨b,o,h⟩
 ·rw [h,loc_below_none hk h]
 ·rw [h,loc_below_abs hk h]
theorem okp_set {g x:G} {p:Path} (hk:g.okp p = true):(g.set p x).okp p = true:=by
 induction p generalizing g with
 | nil=>rfl
 | cons st p ih =>
  cases g <;> cases st <;> simp only [okp,Bool.and_eq_true,decide_eq_true_eq] at hk <;> try cases hk
  case agg.f.intro s i hi hk=>simp only [T.set,okp,len_setN,nth_setN_same _ hi,ih hk,hi];rfl
  case sl.i.intro own a z s k hi hk=>simp only [T.set,okp,len_setN,nth_setN_same _ hi.2,ih hk,hi.1,hi.2];rfl
  case box.d.intro own a g ho hk=>simp only [T.set,okp,ih hk,ho];rfl
  case map.i.intro own a s k hi hk=>simp only [T.set,okp,len_setN,nth_setN_same _ hi.2,ih hk,hi.1,hi.2];rfl
end T
theorem mpre_append (p q r:Path):mpre (p ++ q) (p ++ r) = mpre q r:=by
 induction p with
 | nil=>rfl
 | cons st p ih=>cases st <;> simp [mpre,ih]
section
variable {α:Type}
theorem back_length:∀ (pls:List (Nat×Path)) (xs F:List (T α)),(back pls xs F).length = F.length
 | [],_,_=>rfl
 | _ :: _,[],_=>rfl
 | (k,p) :: pls,x :: xs,F=>by rw [back,back_length];simp
theorem back_other {k:Nat}:∀ (pls:List (Nat×Path)) (xs F:List (T α)),k∉pls.map (·.1)→(back pls xs F)[k]? = F[k]?
 | [],_,_,_=>rfl
 | _ :: _,[],_,_=>rfl
 | (j,p) :: pls,x :: xs,F,h=>by
  simp only [List.map_cons,List.mem_cons,not_or] at h
  rw [back,back_other pls xs _ h.2,List.getElem?_set_ne (Ne.symm h.1)]
theorem back_at {i k:Nat} {p:Path} {x g:T α}:∀ (pls:List (Nat×Path)) (xs F:List (T α)),(pls.map (·.1)).Nodup→pls[i]? = some (k,p)→xs[i]? = some x→F[k]? = some g →
  (back pls xs F)[k]? = some (g.set p x):=by
 induction i with
 | zero =>
  intro pls xs F hn hp hx hg
  cases pls with
  | nil=>simp at hp
  | cons e pls =>
   cases xs with
   | nil=>simp at hx
   | cons y xs =>
    obtain rfl:e = (k,p):=by simpa using hp
    obtain rfl:y = x:=by simpa using hx
    simp only [List.map_cons,List.nodup_cons] at hn
    rw [back,back_other _ _ _ hn.1]
    have hk:=(List.getElem?_eq_some_iff.1 hg).1
    simp [List.getElem?_set_self hk,hg]
 | succ i ih =>
  intro pls xs F hn hp hx hg
  cases pls with
  | nil=>simp at hp
  | cons e pls =>
   cases xs with
   | nil=>simp at hx
   | cons y xs =>
    obtain ⟨j,q⟩:=e
    simp only [List.map_cons,List.nodup_cons] at hn
    have hp':pls[i]? = some (k,p):=by simpa using hp
    have hne:j≠k:=fun e=>hn.1 (by subst e;exact List.mem_map.2 ⟨(j,p),List.mem_of_getElem? hp',rfl⟩)
    rw [back]
    exact ih pls xs _ hn.2 hp' (by simpa using hx) (by rw [List.getElem?_set_ne hne];exact hg)
theorem back_cases {k:Nat} {pls:List (Nat×Path)} {xs F:List (T α)} (hn:(pls.map (·.1)).Nodup) (hl:xs.length = pls.length) (hk:k < F.length) :
  (∃ (i:Nat) (p:Path) (x g:T α),pls[i]? = some (k,p)∧xs[i]? = some x∧F[k]? = some g∧(back pls xs F)[k]? = some (g.set p x))∨(k∉pls.map (·.1)∧(back pls xs F)[k]? = F[k]?):=by
 by_cases h:k∈pls.map (·.1)
 ·obtain ⟨⟨k',p⟩,h1,h2⟩:=List.mem_map.1 h
  simp only at h2
  subst h2
  obtain ⟨i,hi⟩:=List.getElem?_of_mem h1
  have hil:=(List.getElem?_eq_some_iff.1 hi).1
  have hx:xs[i]? = some (xs[i]'(by omega)):=List.getElem?_eq_getElem (by omega)
  have hg:=List.getElem?_eq_getElem hk
  exact .inl ⟨i,p,_,_,hi,hx,hg,back_at pls xs F hn hi hx hg⟩
 ·exact .inr ⟨h,back_other _ _ _ h⟩
end
theorem back_erase:∀ (pls:List (Nat×Path)) (xs F:List G),(back pls xs F).map T.erase = back pls (xs.map T.erase) (F.map T.erase)
 | [],_,_=>rfl
 | _ :: _,[],_=>rfl
 | (k,p) :: pls,x :: xs,F=>by
  rw [back,back_erase,List.map_cons,back,List.map_set,T.erase_set]
  congr 3
  simp only [List.getD_eq_getElem?_getD,List.getElem?_map]
  cases F[k]? <;> rfl
def nodes (F:List G) (pls:List (Nat×Path)):List G:=pls.map fun e=>(F.getD e.1 .nil).at_ e.2
theorem back_count (b:Nat):∀ (pls:List (Nat×Path)) (xs F:List G),(pls.map (·.1)).Nodup→xs.length = pls.length→(∀ e∈pls,e.1 < F.length∧(F.getD e.1 .nil).okp e.2 = true) →
  (own (back pls xs F)).count b + (own (nodes F pls)).count b = (own F).count b + (own xs).count b
 | [],[],F,_,_,_=>by simp [back,nodes,own]
 | [],_ :: _,_,_,hl,_=>by simp at hl
 | _ :: _,[],_,_,hl,_=>by simp at hl
 | (k,p) :: pls,x :: xs,F,hn,hl,hok=>by
  simp only [List.map_cons,List.nodup_cons] at hn
  obtain ⟨hk,hp⟩:=hok (k,p) List.mem_cons_self
  simp only at hk hp
  have hg:F[k]? = some (F[k]'hk):=List.getElem?_eq_getElem hk
  have hgd:F.getD k .nil = F[k]'hk:=by simp [hk]
  rw [hgd] at hp
  have hother:∀ e∈pls,(F.set k ((F.getD k .nil).set p x)).getD e.1 .nil = F.getD e.1 .nil:=fun e he=>by
   have hne:k≠e.1:=fun h=>hn.1 (h ▸ List.mem_map.2 ⟨e,he,rfl⟩)
   simp only [List.getD_eq_getElem?_getD]
   rw [List.getElem?_set_ne hne]
  have ih:=back_count b pls xs (F.set k ((F.getD k .nil).set p x)) hn.2 (by simpa using hl) fun e he=>by
   obtain ⟨h1,h2⟩:=hok e (List.mem_cons_of_mem _ he)
   exact ⟨by simpa using h1,by rw [hother e he];exact h2⟩
  have hnodes:nodes (F.set k ((F.getD k .nil).set p x)) pls = nodes F pls:=List.map_congr_left fun e he=>by rw [hother e he]
  rw [hnodes] at ih
  have h1:=own_set hg ((F.getD k .nil).set p x) b
  obtain ⟨h2,h3⟩:=T.count_rest hp b
  have h3:=h3 x
  rw [hgd] at h1 ih
  have h4:(own (nodes F ((k,p) :: pls))).count b = ((F[k]'hk).at_ p).owned.count b + (own (nodes F pls)).count b:=by
   simp only [nodes,List.map_cons,own,List.flatMap_cons,List.count_append,hgd]
  have h5:(own (x :: xs)).count b = x.owned.count b + (own xs).count b:=by simp [own]
  rw [back,h4,h5,hgd]
  omega
end Go.Vc

/- A call whose trees lie at places of the caller's. -/
namespace Go.Vc
set_option linter.all false
open T (hdr blk)
theorem T.loc_set_below {g x:G} {p r:Path} (hk:g.okp p = true) (hw:x.width = (g.at_ p).width) (h:x.loc r = (g.at_ p).loc r):(g.set p x).loc (p ++ r) = g.loc (p ++ r):=by
 induction p generalizing g with
 | nil=>exact h
 | cons st p ih =>
  cases g <;> cases st <;> simp only [okp,Bool.and_eq_true,decide_eq_true_eq] at hk <;> try cases hk
  case agg.f.intro s i hi hk =>
   have hws:((s.nth i).set p x).width = (s.nth i).width:=width_set hw
   simp only [List.cons_append,T.set,loc,len_setN,if_pos hi,nth_setN_same _ hi,offs_setN hws,ih hk hw h]
  case sl.i.intro own a z s k hi hk=>simp only [List.cons_append,T.set,loc,len_setN,if_pos hi.2,nth_setN_same _ hi.2,ih hk hw h]
  case box.d.intro own a g ho hk=>simp only [List.cons_append,T.set,loc,ih hk hw h]
  case map.i.intro own a s k hi hk=>simp only [List.cons_append,T.set,loc,len_setN,if_pos hi.2,nth_setN_same _ hi.2,ih hk hw h]
theorem dead_mapK {pls:List (Nat×Path)} {κ:List (Nat×Path)} {i k:Nat} {p r:Path} {s:Bool} (hi:pls[i]? = some (k,p)) (hd:dead (mapK pls κ) k (p ++ r) s = false):dead κ i r s = false:=by
 unfold dead at *
 rw [List.any_eq_false] at *
 rintro ⟨j,q0⟩ hm h2
 simp only [Bool.and_eq_true,beq_iff_eq] at h2
 obtain ⟨rfl,h3,h4⟩:=h2
 refine hd (k,p ++ q0) (List.mem_filterMap.2 ⟨(i,q0),hm,by simp [hi]⟩) ?_
 simp only [Bool.and_eq_true,beq_self_eq_true,mpre_append,h3,true_and,List.length_append]
 simp only [Bool.or_eq_true,decide_eq_true_eq] at h4 ⊢
 rcases h4 with h4 | h4
 ·exact .inl h4
 ·exact .inr (by omega)
theorem placesOk_spec {st:St}:∀ {pls:List (Nat×Path)} {Y:List D},placesOk st pls Y →
  pls.length = Y.length∧(∀ e∈pls,e.1 < st.X.length∧(st.tree e.1).okp e.2 = true∧T.noEntry false (st.tree e.1) e.2 = true∧isHead ((st.tree e.1).at_ e.2) = true) ∧
   pls.map (fun e=>(st.tree e.1).at_ e.2) = Y
 | [],[],_=>⟨rfl,by simp,rfl⟩
 | [],_ :: _,h=>h.elim
 | _ :: _,[],h=>h.elim
 | (k,p) :: pls,y :: Y,⟨h1,h2,h3,h4,h5,h6⟩=>by
  obtain ⟨g1,g2,g3⟩:=placesOk_spec h6
  refine ⟨by simp [g1],fun e he=>?_,by simp [g3,h5]⟩
  rcases List.mem_cons.1 he with rfl | he
  ·exact ⟨h1,h2,h3,by rw [h5];exact h4⟩
  ·exact g2 e he
theorem isHead_erase {α:Type} (g:T α):isHead g.erase = isHead g:=by cases g <;> rfl
theorem emb_args {h:Array Obj} {I:Nat→Prop} {F:List G} {pls:List (Nat×Path)} {n0:Nat} (hok:∀ e∈pls,(F.getD e.1 .nil).okp e.2 = true∧isHead ((F.getD e.1 .nil).at_ e.2) = true) (av:AV) :
  ∀ {m:Bool} {vs:List Value},av.okArg pls.length = true→Rl h I F (av.emb pls n0) m vs→Rl h I (nodes F pls) av m vs:=by
 have node:∀ (i k:Nat) (p:Path),pls[i]? = some (k,p)→(nodes F pls)[i]? = some ((F.getD k .nil).at_ p):=fun i k p hi=>by rw [nodes,List.getElem?_map,hi];rfl
 have hdrs:∀ (i k:Nat) (p q:Path) (x:Bool×Value×Nat×Nat),pls[i]? = some (k,p)→hdrF F k (p ++ q) = some x→hdrF (nodes F pls) i q = some x:=fun i k p q x hi hx=>by
  unfold hdrF at *
  rw [node i k p hi]
  cases hg:F[k]? with
  | none=>rw [hg] at hx;simp at hx
  | some g =>
   rw [hg] at hx
   simp only [Option.bind_some,T.at_append] at hx ⊢
   simpa [List.getD_eq_getElem?_getD,hg] using hx
 induction av with
 | ptr i q =>
  intro m vs ha H
  simp only [AV.okArg,Bool.and_eq_true,Bool.not_eq_true',List.isEmpty_eq_false_iff] at ha
  have hi:i < pls.length:=Nat.le_of_ble_eq_true ha.1
  obtain ⟨k,p,hp⟩:∃ k p,pls[i]? = some (k,p):=⟨_,_,List.getElem?_eq_getElem hi⟩
  simp only [AV.emb,embK,hp] at H
  obtain ⟨h1,h2⟩:=hok _ (List.mem_of_getElem? hp)
  cases m <;>
  ·obtain ⟨b,o,h3,h4⟩:=H
   refine ⟨b,o,?_,h4⟩
   unfold locF at *
   rw [node i k p hp]
   cases hg:F[k]? with
   | none=>rw [hg] at h3;simp at h3
   | some g =>
    rw [hg] at h3
    have hgd:F.getD k .nil = g:=by simp [List.getD_eq_getElem?_getD,hg]
    simp only [hgd] at h1 h2 ⊢
    simp only [Option.bind_some] at h3 ⊢
    rw [←T.loc_below h1 h2 ha.2];exact h3
 | sub i q lo n ex =>
  intro m vs ha H
  have hi:i < pls.length:=Nat.le_of_ble_eq_true ha
  obtain ⟨k,p,hp⟩:∃ k p,pls[i]? = some (k,p):=⟨_,_,List.getElem?_eq_getElem hi⟩
  simp only [AV.emb,embK,hp] at H
  cases m <;> (obtain ⟨own,a,z,len,v,h1,h2⟩:=H;exact ⟨own,a,z,len,v,hdrs i k p q _ hp h1,h2⟩)
 | mp i q =>
  intro m vs ha H
  have hi:i < pls.length:=Nat.le_of_ble_eq_true ha
  obtain ⟨k,p,hp⟩:∃ k p,pls[i]? = some (k,p):=⟨_,_,List.getElem?_eq_getElem hi⟩
  simp only [AV.emb,embK,hp] at H
  cases m <;> (obtain ⟨own,a,z,len,h1,h2⟩:=H;exact ⟨own,a,z,len,hdrs i k p q _ hp h1,h2⟩)
 | cons a t iha iht =>
  intro m vs ha H
  simp only [AV.okArg,Bool.and_eq_true] at ha
  cases m <;> (obtain ⟨v1,v2,h1,h2,h3⟩:=H;exact ⟨v1,v2,h1,iha ha.1 h2,iht ha.2 h3⟩)
 | agg s ih =>
  intro m vs ha H
  cases m
  ·exact ih (m:=false) ha H
  ·obtain ⟨cs,h1,h2⟩:=H;exact ⟨cs,h1,ih ha h2⟩
 | tup s ih =>
  intro m vs ha H
  cases m
  ·exact H.elim
  ·obtain ⟨cs,h1,h2⟩:=H;exact ⟨cs,h1,ih ha h2⟩
 | fn f s ih=>intro m vs ha H;cases m <;> (obtain ⟨cs,h1,h2⟩:=H;exact ⟨cs,h1,ih ha h2⟩)
 | _=>intro m vs _ H;cases m <;> exact H
def joined {α:Type} (pls:List (Nat×Path)) (F' F:List (T α)):List (T α):=back pls (F'.take pls.length) F ++ F'.drop pls.length
theorem joined_at {F F':List G} {pls:List (Nat×Path)} (hn:(pls.map (·.1)).Nodup) (hok:∀ e∈pls,e.1 < F.length∧(F.getD e.1 .nil).okp e.2 = true) {i k:Nat} {p:Path} {x:G}
  (hi:pls[i]? = some (k,p)) (hx:F'[i]? = some x):∃ g,F[k]? = some g∧g.okp p = true∧(joined pls F' F)[k]? = some (g.set p x):=by
 obtain ⟨h1,h2⟩:=hok _ (List.mem_of_getElem? hi)
 have hg:F[k]? = some (F[k]'h1):=List.getElem?_eq_getElem h1
 refine ⟨_,hg,by simpa [List.getD_eq_getElem?_getD,hg] using h2,?_⟩
 unfold joined
 rw [List.getElem?_append_left (by rw [back_length];exact h1)]
 exact back_at pls _ F hn hi (by rw [List.getElem?_take_of_lt (List.getElem?_eq_some_iff.1 hi).1];exact hx) hg
theorem joined_new {F F':List G} {pls:List (Nat×Path)} {i:Nat} (hi:pls[i]? = none):(joined pls F' F)[F.length + (i - pls.length)]? = F'[i]?:=by
 have:=List.getElem?_eq_none_iff.1 hi
 unfold joined
 rw [List.getElem?_append_right (by rw [back_length];omega),back_length,List.getElem?_drop]
 congr 1;omega
theorem emb_res {h:Array Obj} {I:Nat→Prop} {F F':List G} {pls:List (Nat×Path)} (hn:(pls.map (·.1)).Nodup)
  (hok:∀ e∈pls,e.1 < F.length∧(F.getD e.1 .nil).okp e.2 = true) (av:AV) :
  ∀ {m:Bool} {vs:List Value},Rl h I F' av m vs→Rl h I (joined pls F' F) (av.emb pls F.length) m vs:=by
 have locs:∀ (i:Nat) (q:Path) (b o:Nat),locF F' i q = some (.abs b o)→locF (joined pls F' F) (embK pls F.length i).1 ((embK pls F.length i).2 ++ q) = some (.abs b o):=fun i q b o hl=>by
  unfold embK
  cases hi:pls[i]? with
  | none=>simp only [locF,joined_new hi,List.nil_append] at hl ⊢;exact hl
  | some e =>
   obtain ⟨k,p⟩:=e
   simp only
   unfold locF at *
   cases hx:F'[i]? with
   | none=>rw [hx] at hl;simp at hl
   | some x =>
    rw [hx] at hl
    obtain ⟨g,h1,h2,h3⟩:=joined_at hn hok hi hx
    simp only [h3,Option.bind_some] at hl ⊢
    exact T.loc_below_abs (T.okp_set h2) (by rw [T.at_set_same h2];exact hl)
 have hdrs:∀ (i:Nat) (q:Path) (y:Bool×Value×Nat×Nat),hdrF F' i q = some y→hdrF (joined pls F' F) (embK pls F.length i).1 ((embK pls F.length i).2 ++ q) = some y:=fun i q y hl=>by
  unfold embK
  cases hi:pls[i]? with
  | none=>simp only [hdrF,joined_new hi,List.nil_append] at hl ⊢;exact hl
  | some e =>
   obtain ⟨k,p⟩:=e
   simp only
   unfold hdrF at *
   cases hx:F'[i]? with
   | none=>rw [hx] at hl;simp at hl
   | some x =>
    rw [hx] at hl
    obtain ⟨g,h1,h2,h3⟩:=joined_at hn hok hi hx
    simp only [h3,Option.bind_some,T.at_append,T.at_set_same h2] at hl ⊢
    exact hl
 induction av with
 | ptr i q=>intro m vs H;cases m <;> (obtain ⟨b,o,h3,h4⟩:=H;exact ⟨b,o,locs i q b o h3,h4⟩)
 | sub i q lo n ex=>intro m vs H;cases m <;> (obtain ⟨own,a,z,len,v,h1,h2⟩:=H;exact ⟨own,a,z,len,v,hdrs i q _ h1,h2⟩)
 | mp i q=>intro m vs H;cases m <;> (obtain ⟨own,a,z,len,h1,h2⟩:=H;exact ⟨own,a,z,len,hdrs i q _ h1,h2⟩)
 | cons a t iha iht=>intro m vs H;cases m <;> (obtain ⟨v1,v2,h1,h2,h3⟩:=H;exact ⟨v1,v2,h1,iha h2,iht h3⟩)
 | agg s ih =>
  intro m vs H
  cases m
  ·exact ih (m:=false) H
  ·obtain ⟨cs,h1,h2⟩:=H;exact ⟨cs,h1,ih h2⟩
 | tup s ih =>
  intro m vs H
  cases m
  ·exact H.elim
  ·obtain ⟨cs,h1,h2⟩:=H;exact ⟨cs,h1,ih h2⟩
 | fn f s ih=>intro m vs H;cases m <;> (obtain ⟨cs,h1,h2⟩:=H;exact ⟨cs,h1,ih h2⟩)
 | _=>intro m vs H;cases m <;> exact H
theorem own_take_drop (F:List G) (n b:Nat):(own F).count b = (own (F.take n)).count b + (own (F.drop n)).count b:=by
 have h:own F = own (F.take n) ++ own (F.drop n):=by unfold own;rw [←List.flatMap_append,List.take_append_drop]
 rw [h,List.count_append]
theorem own_nils {β:Type} (l:List β):own (l.map fun _=>(T.nil:G)) = []:=by
 induction l with
 | nil=>rfl
 | cons a l ih=>simpa [own,T.owned] using ih
theorem own_one_of {F:List G} {k:Nat} {g:G} (hk:F[k]? = some g) {b:Nat}:g.owned.count b≤(own F).count b:=by
 have:=own_set hk (.nil) b
 simp only [T.owned,List.count_nil] at this;omega
theorem Stp.call {c:Cx} {X:List D} {κ0:List (Nat×Path)} {w w':World} {I I':Nat→Prop} {F F':List G} (hi:Inv c X κ0 w I F) {pls:List (Nat×Path)} (hn:(pls.map (·.1)).Nodup)
  (hok:∀ e∈pls,e.1 < F.length∧(F.getD e.1 .nil).okp e.2 = true∧T.noEntry false (F.getD e.1 .nil) e.2 = true) {X':List D} {κ:List (Nat×Path)}
  (hc:Inv ⟨c.P,0,w,I,nodes F pls⟩ X' κ w' I' F'):Stp w w' I I' F (joined pls F' F) (mapK pls κ) c.F0.length:=by
 have hnl:(nodes F pls).length = pls.length:=by simp [nodes]
 have hlen:pls.length≤F'.length:=by
  rcases Nat.lt_or_ge F'.length pls.length with h | h
  ·obtain ⟨g,hg,_⟩:=hc.base F'.length _ (List.getElem?_eq_getElem (by rw [hnl];exact h))
   simp at hg
  ·exact h
 have hok2:∀ e∈pls,e.1 < F.length∧(F.getD e.1 .nil).okp e.2 = true:=fun e he=>⟨(hok e he).1,(hok e he).2.1⟩
 have hcnt:=fun b=>back_count b pls (F'.take pls.length) F hn (by simp;omega) hok2
 have hsplit:=fun b=>own_take_drop F' pls.length b
 have hall:∀ b,(own (joined pls F' F)).count b + (own (nodes F pls)).count b = (own F).count b + (own F').count b:=fun b=>by
  have h1:=hcnt b
  have h2:=hsplit b
  have h3:(own (joined pls F' F)).count b = (own (back pls (F'.take pls.length) F)).count b + (own (F'.drop pls.length)).count b:=by simp [joined,own]
  omega
 have hone:=fun b=>count_le_one hi.nodup b
 have hone':=fun b=>count_le_one hc.nodup b
 have hold:∀ b,w.heap.size≤b→(own F).count b = 0:=fun b hb=>List.count_eq_zero.2 fun hm=>by have:=hi.lt b hm;omega
 have hnode:∀ b,(own (nodes F pls)).count b≤(own F).count b + (own F').count b:=fun b=>by have:=hall b;omega
 have hfr:∀ b,b∈own F'→b < w.heap.size→b∈own (nodes F pls):=fun b hb hlt=>hc.fresh b hb hlt
 have hsub:∀ b,b∈own (nodes F pls)→b∈own F:=fun b hb=>by
  simp only [own,nodes,List.mem_flatMap,List.mem_map] at hb ⊢
  obtain ⟨g,⟨e,he,rfl⟩,hb⟩:=hb
  obtain ⟨h1,h2⟩:=hok2 e he
  refine ⟨F.getD e.1 .nil,?_,?_⟩
  ·rw [List.getD_eq_getElem?_getD,List.getElem?_eq_getElem h1];exact List.getElem_mem h1
  ·have:=(T.count_rest h2 b).1
   rw [mem_of_count] at hb ⊢;omega
 have hcount1:∀ b,(own (joined pls F' F)).count b≤1:=fun b=>by
  have h1:=hall b
  have h2:=hone b
  have h3:=hone' b
  by_cases hb:b∈own F'
  ·rcases Nat.lt_or_ge b w.heap.size with hlt | hlt
   ·have:=hfr b hb hlt
    rw [mem_of_count] at this;omega
   ·have:=hold b hlt;omega
  ·have:(own F').count b = 0:=List.count_eq_zero.2 hb
   omega
 have hmem:∀ b,b∈own (joined pls F' F)→b∈own F'∨(b∈own F∧b∉own (nodes F pls)):=fun b hb=>by
  by_cases h':b∈own F'
  ·exact .inl h'
  ·have h1:=hall b
   have h2:=hone b
   have:(own F').count b = 0:=List.count_eq_zero.2 h'
   rw [mem_of_count] at hb
   refine .inr ⟨by rw [mem_of_count];omega,fun hm=>?_⟩
   rw [mem_of_count] at hm;omega
 have hheap:∀ b,b < w.heap.size→b∉own (nodes F pls)→w'.heap[b]? = w.heap[b]?:=fun b h1 h2=>hc.frame b h1 h2
 have hI:∀ b,I b→w'.heap[b]? = w.heap[b]?:=fun b hb=>hheap b (hi.ilt b hb) fun hm=>hi.apart b (hsub b hm) hb
 have hnodes:∀ (i k:Nat) (p:Path),pls[i]? = some (k,p)→(nodes F pls)[i]? = some ((F.getD k .nil).at_ p):=fun i k p h=>by rw [nodes,List.getElem?_map,h];rfl
 constructor
 case holds =>
  intro g hg
  rcases List.mem_append.1 hg with h | h
  ·obtain ⟨k,hk⟩:=List.getElem?_of_mem h
   have hkl:k < F.length:=by have:=(List.getElem?_eq_some_iff.1 hk).1;rwa [back_length] at this
   rcases back_cases (xs:=F'.take pls.length) hn (by simp;omega) hkl with ⟨i,p,x,f,h1,h2,h3,h4⟩ | ⟨h1,h2⟩
   ·rw [h4] at hk
    cases hk
    obtain ⟨_,e1,e2⟩:=hok _ (List.mem_of_getElem? h1)
    have hfd:F.getD k .nil = f:=by simp [List.getD_eq_getElem?_getD,h3]
    simp only [hfd] at e1 e2
    have hx:F'[i]? = some x:=by
     have hil:=(List.getElem?_eq_some_iff.1 h1).1
     rw [List.getElem?_take_of_lt hil] at h2;exact h2
    obtain ⟨x',g1,g2,_⟩:=hc.base i _ (hnodes i k p h1)
    rw [hx] at g1;cases g1
    rw [hfd] at g2
    refine T.Holds.set_same (hc.holds x (List.mem_of_getElem? hx)) hI hc.imono (hi.holds f (List.mem_of_getElem? h3)) e1 e2 g2 (fun h=>by cases h) fun b hb=>?_
    have hr:=(T.count_rest e1 b).1
    have hf:=own_one_of h3 (b:=b)
    have hb':b∈own F:=own_mem h3 (by rw [mem_of_count] at hb ⊢;omega)
    refine hheap b (hi.lt b hb') fun hm=>?_
    have hin:(own (nodes F pls)).count b + (f.rest p).count b≤(own F).count b:=by
     have hq:=back_count b pls (nodes F pls) (F) hn hnl hok2
     have key:∀ (pls:List (Nat×Path)) (F:List G) (i:Nat),(pls.map (·.1)).Nodup→(∀ e∈pls,e.1 < F.length∧(F.getD e.1 .nil).okp e.2 = true)→pls[i]? = some (k,p)→F[k]? = some f →
       (own (nodes F pls)).count b + (f.rest p).count b≤(own F).count b:=by
      intro pls F i hn hok hi hf
      have h1:=back_count b pls (pls.map fun _=>T.nil) F hn (by simp) hok
      have hz:(own (pls.map fun _=>(T.nil:G))).count b = 0:=by rw [own_nils];rfl
      have h2:(back pls (pls.map fun _=>T.nil) F)[k]? = some (f.set p .nil):=back_at pls _ F hn hi (by rw [List.getElem?_map,hi];rfl) hf
      have h3:=own_one_of h2 (b:=b)
      obtain ⟨_,hok'⟩:=hok _ (List.mem_of_getElem? hi)
      have hfd:F.getD k .nil = f:=by simp [List.getD_eq_getElem?_getD,hf]
      simp only [hfd] at hok'
      have h4:=(T.count_rest hok' b).2 .nil
      simp only [T.owned,List.count_nil,Nat.zero_add] at h4
      omega
     exact key pls F i hn hok2 h1 h3
    have:=hone b
    rw [mem_of_count] at hb hm
    omega
   ·rw [h2] at hk
    refine (hi.holds g (List.mem_of_getElem? hk)).agree (fun b hb=>?_) hI hc.imono
    refine hheap b (hi.lt b (own_mem hk hb)) fun hm=>?_
    have key:(own (nodes F pls)).count b + g.owned.count b≤(own F).count b:=by
     have h3:=back_count b pls (pls.map fun _=>T.nil) F hn (by simp) hok2
     have hz:(own (pls.map fun _=>(T.nil:G))).count b = 0:=by rw [own_nils];rfl
     have h4:(back pls (pls.map fun _=>T.nil) F)[k]? = some g:=by rw [back_other _ _ _ h1];exact hk
     have h5:=own_one_of h4 (b:=b)
     omega
    have:=hone b
    rw [mem_of_count] at hb hm
    omega
  ·exact hc.holds g (List.mem_of_mem_drop h)
 case nodup=>exact nodup_of_count hcount1
 case apart =>
  intro b hb hIb
  rcases hmem b hb with h | ⟨h1,h2⟩
  ·exact hc.apart b h hIb
  ·rcases hc.inew b hIb with h | h | h
   ·exact hi.apart b h1 h
   ·have:=hi.lt b h1;simp only at h;omega
   ·exact h2 h
 case mine =>
  intro b hb
  rcases hmem b hb with h | ⟨h1,_⟩
  ·rcases Nat.lt_or_ge b w.heap.size with hlt | hlt
   ·exact .inl (hsub b (hfr b h hlt))
   ·exact .inr hlt
  ·exact .inl h1
 case lt =>
  intro b hb
  rcases hmem b hb with h | ⟨h1,_⟩
  ·exact hc.lt b h
  ·exact Nat.lt_of_lt_of_le (hi.lt b h1) hc.size
 case ilt=>exact hc.ilt
 case heap=>exact fun b h1 h2=>hheap b h1 fun hm=>h2 (hsub b hm)
 case size=>exact hc.size
 case os=>exact hc.os
 case tape=>exact hc.tape
 case output=>exact hc.output
 case imono=>exact hc.imono
 case inew =>
  intro b hb
  rcases hc.inew b hb with h | h | h
  ·exact .inl h
  ·exact .inr (.inr h)
  ·exact .inr (.inl (hsub b h))
 case keep =>
  intro k g hg
  have hkl:=(List.getElem?_eq_some_iff.1 hg).1
  have hleft:(joined pls F' F)[k]? = (back pls (F'.take pls.length) F)[k]?:=by unfold joined;rw [List.getElem?_append_left (by rw [back_length];exact hkl)]
  rw [hleft]
  rcases back_cases (xs:=F'.take pls.length) hn (by simp;omega) hkl with ⟨i,p,x,f,h1,h2,h3,h4⟩ | ⟨h1,h2⟩
  ·rw [hg] at h3;cases h3
   obtain ⟨_,e1,e2⟩:=hok _ (List.mem_of_getElem? h1)
   have hfd:F.getD k .nil = g:=by simp [List.getD_eq_getElem?_getD,hg]
   simp only [hfd] at e1 e2
   have hx:F'[i]? = some x:=by
    have hil:=(List.getElem?_eq_some_iff.1 h1).1
    rw [List.getElem?_take_of_lt hil] at h2;exact h2
   obtain ⟨x',g1,g2,g3,g4,g5⟩:=hc.base i _ (hnodes i k p h1)
   rw [hx] at g1;cases g1
   rw [hfd] at g2 g3 g4 g5
   have hw:=T.width_of_cells g2
   refine ⟨g.set p x,h4,fun _=>T.cells_set_same e1 g2,fun q hq=>?_,fun q hq=>?_,fun q v hj hq=>?_⟩
   ·by_cases hr:∃ r,q = p ++ r
    ·obtain ⟨r,rfl⟩:=hr
     exact T.loc_set_below e1 hw (g3 r (dead_mapK h1 hq))
    ·exact T.loc_set hw fun r hr'=>absurd ⟨r,hr'⟩ hr
   ·by_cases hr:∃ r,q = p ++ r
    ·obtain ⟨r,rfl⟩:=hr
     rw [T.at_append,T.at_append,T.at_set_same e1]
     exact g4 r (dead_mapK h1 hq)
    ·exact T.hdr_set fun r hr'=>hr ⟨r,hr'⟩
   ·by_cases hr:∃ r,q = p ++ r
    ·obtain ⟨r,rfl⟩:=hr
     rw [T.at_append,T.at_set_same e1]
     rw [T.at_append] at hj
     exact g5 r v hj (dead_mapK h1 hq)
    ·exact T.junk_set e1 hj fun r hr'=>hr ⟨r,hr'⟩
  ·exact ⟨g,by rw [h2];exact hg,fun _=>rfl,fun _ _=>rfl,fun _ _=>rfl,fun _ _ h _=>h⟩
theorem Meets.call {c:Cx} {f:FuncId} {Y:List D} {args:AV} {R:AV→List D→List (Nat×Path)→Prop} (h:Meets c.P f Y args R) {st:St} {avs:AV} {K:AV→St→Prop} (pls:List (Nat×Path))
  (hn:(pls.map (·.1)).Nodup) (hpl:placesOk st pls Y) (ha:args.emb pls st.X.length = avs) (hok:args.okArg pls.length = true)
  (hx:pls = []∨avs.still = false) (hK:∀ av X κ,R av X κ→K (av.emb pls st.X.length) (st.after c.F0.length pls X κ)):CallW c f avs st K:=by
 intro a w vs ⟨hd,hs,I,F,hi,he,hp,hxs⟩
 refine ⟨h.1,?_⟩
 obtain ⟨p1,p2,p3⟩:=placesOk_spec hpl
 have hFl:F.length = st.X.length:=by rw [←hi.erase];simp
 have htree:∀ k,st.tree k = (F.getD k .nil).erase:=fun k=>by
  rw [St.tree,←hi.erase,List.getD_eq_getElem?_getD,List.getElem?_map,List.getD_eq_getElem?_getD]
  cases F[k]? <;> rfl
 have hokF:∀ e∈pls,e.1 < F.length∧(F.getD e.1 .nil).okp e.2 = true∧T.noEntry false (F.getD e.1 .nil) e.2 = true:=fun e he=>by
  obtain ⟨h1,h2,h3,_⟩:=p2 e he
  rw [htree,T.okp_erase] at h2
  rw [htree,T.noEntry_erase] at h3
  exact ⟨by omega,h2,h3⟩
 have hhead:∀ e∈pls,(F.getD e.1 .nil).okp e.2 = true∧isHead ((F.getD e.1 .nil).at_ e.2) = true:=fun e he=>by
  obtain ⟨h1,h2,h3,h4⟩:=p2 e he
  rw [htree,←T.erase_at,isHead_erase] at h4
  exact ⟨(hokF e he).2.1,h4⟩
 have hY:(nodes F pls).map T.erase = Y:=by
  rw [←p3,nodes,List.map_map]
  exact List.map_congr_left fun e he=>by simp only [Function.comp_apply,htree,T.erase_at]
 subst ha
 have hargs:=emb_args hhead args hok hxs
 have hsub:∀ b,(own (nodes F pls)).count b≤(own F).count b:=fun b=>by
  have h3:=back_count b pls (pls.map fun _=>T.nil) F hn (by simp) fun e he=>⟨(hokF e he).1,(hokF e he).2.1⟩
  have hz:(own (pls.map fun _=>(T.nil:G))).count b = 0:=by rw [own_nils];rfl
  omega
 have hmem:∀ b∈own (nodes F pls),b∈own F:=fun b hb=>by have:=hsub b;rw [mem_of_count] at *;omega
 refine Calls.mono (h.2 w I (nodes F pls) vs hY (fun g hg=>?_) (nodup_of_count fun b=>Nat.le_trans (hsub b) (count_le_one hi.nodup b)) (fun b hb=>hi.apart b (hmem b hb)) (fun b hb=>hi.lt b (hmem b hb)) hi.ilt hargs) ?_
 ·simp only [nodes,List.mem_map] at hg
  obtain ⟨e,he,rfl⟩:=hg
  have h1:=(hokF e he).1
  refine T.Holds.at_ (hi.holds _ ?_) e.2
  rw [List.getD_eq_getElem?_getD,List.getElem?_eq_getElem h1];exact List.getElem_mem h1
 ·rintro e w' ⟨v,av,X,κ,I',F',rfl,hR,hc,hv⟩
  have S:=Stp.call hi hn hokF hc
  have hres:=emb_res (F':=F') hn (fun e he=>⟨(hokF e he).1,(hokF e he).2.1⟩) av hv
  refine ⟨v,_,_,rfl,hK av X κ hR,⟨hd.step hi S,hs,I',joined pls F' F,?_,he.step hi S,hp.step hi S,by rw [←hFl];exact hres⟩,fun hst b hb=>?_⟩
  rotate_left
  ·rcases hx with hx | hx
   ·subst hx;exact hc.frame b hb (by simp [nodes,own])
   ·rw [hst] at hx;cases hx
  have h2:=hi.step S
  have herase:(joined pls F' F).map T.erase = (st.after c.F0.length pls X κ).X:=by
   simp only [joined,St.after,List.map_append,back_erase,hi.erase,List.map_take,List.map_drop,hc.erase]
  rw [herase] at h2
  refine h2.rekill fun k q s hk hdd=>?_
  simp only [St.after] at hdd
  rw [dead_append,Bool.or_eq_false_iff] at hdd ⊢
  refine ⟨?_,hdd.2⟩
  have h3:=hdd.1
  unfold dead at h3 ⊢
  rw [List.any_eq_false] at h3 ⊢
  rintro ⟨k0,q0⟩ hm hx
  refine h3 (k0,q0) (List.mem_filter.2 ⟨hm,?_⟩) hx
  simp only [Bool.and_eq_true,beq_iff_eq] at hx
  rw [←hx.1]
  exact Nat.ble_eq_true_of_le hk
end Go.Vc

/- The conditions as rules for 'simp': what a rule asks is worked out first, and what comes behind is left alone till then. -/
namespace Go.Vc
set_option linter.all false
open T (hdr blk)
def bindK {α:Type} (x:α) (K:α→Prop):Prop:=K x
@[irreducible] def tick {α:Type} (x:α):α:=x
@[simp] theorem tick_eq {α:Type} (x:α):tick x = x:=by unfold tick;rfl
@[congr] theorem bindK_congr {α:Type} {x x':α} {K:α→Prop} (h:tick x = x'):bindK x K = bindK x' K:=by rw [tick_eq] at h;rw [h]
@[congr] theorem CallW_congr' {c:Cx} {f f':FuncId} {avs avs':AV} {st st':St} {K:AV→St→Prop} (h0:tick f = f') (h1:avs = avs') (h2:st = st'):CallW c f avs st K = CallW c f' avs' st' K:=CallW_congr ((tick_eq _).symm.trans h0) h1 h2
@[congr] theorem EqK_congr' {P:Program} {t:TypeId} {op:BinOp} {s s' u u':AV} {K:AV→Prop} (h1:tick s = s') (h2:u = u'):EqK P t op s u K = EqK P t op s' u' K:=EqK_congr ((tick_eq _).symm.trans h1) h2
@[congr] theorem VC_congr {c:Cx} {code:Code} {K:Exit→St→Prop} {st st':St} (h:tick st = st'):VC c code K st = VC c code K st':=by rw [tick_eq] at h;rw [h]
@[congr] theorem vcOps_congr {c:Cx} {τ:Tab} {gs:List (Nat×Tmp)} {l:List Oper} {i i':Nat} {st st':St} {K:St→Prop} (hi:i = i') (h:tick st = st'):vcOps c τ gs l i st K = vcOps c τ gs l i' st' K:=by rw [tick_eq] at h;rw [h,hi]
@[congr] theorem opVc_congr {c:Cx} {τ:Tab} {o:Oper} {st st':St} {K:AV→St→Prop} (h:tick st = st'):opVc c τ o st K = opVc c τ o st' K:=by rw [tick_eq] at h;rw [h]
@[congr] theorem pureVc_congr {τ:Tab} {o:Op} {ty:TypeId} {st st':St} {K:AV→Prop} (h:tick st = st'):pureVc τ o ty st K = pureVc τ o ty st' K:=by rw [tick_eq] at h;rw [h]
@[congr] theorem effVc_congr {τ:Tab} {nb nb':Nat} {o:Op} {st st':St} {K:AV→St→Prop} (h0:tick nb = nb') (h:st = st'):effVc τ nb o st K = effVc τ nb' o st' K:=by rw [tick_eq] at h0;rw [h,h0]
@[congr] theorem loadVc_congr {τ:Tab} {o:Op} {st st':St} {K:AV→Prop} (h:tick st = st'):loadVc τ o st K = loadVc τ o st' K:=by rw [tick_eq] at h;rw [h]
@[congr] theorem putVc_congr {gs:List (Nat×Tmp)} {i i':Nat} {dst:Option Tmp} {av av':AV} {st st':St} {K:St→Prop} (h0:tick i = i') (h1:av = av') (h:st = st'):putVc gs i dst av st K = putVc gs i' dst av' st' K:=by rw [tick_eq] at h0;rw [h,h0,h1]
@[congr] theorem binVc_congr {τ:Tab} {op:BinOp} {t:TypeId} {x x' y y':AV} {K:AV→Prop} (h1:tick x = x') (h2:y = y'):binVc τ op t x y K = binVc τ op t x' y' K:=by rw [tick_eq] at h1;rw [h1,h2]
@[congr] theorem intVc_congr {op:BinOp} {k k':IntKind} {m m' n n':Int} {K:AV→Prop} (h1:tick m = m') (h2:n = n'):intVc op k k' m n K = intVc op k k' m' n' K:=by rw [tick_eq] at h1;rw [h1,h2]
@[congr] theorem strVc_congr {op:BinOp} {s s' u u':ByteArray} {K:AV→Prop} (h1:tick s = s') (h2:u = u'):strVc op s u K = strVc op s' u' K:=by rw [tick_eq] at h1;rw [h1,h2]
@[congr] theorem eqVc_congr {op:BinOp} {b b':Bool} {K:AV→Prop} (h1:tick b = b'):eqVc op b K = eqVc op b' K:=by rw [tick_eq] at h1;rw [h1]
@[congr] theorem BoolK_congr {b b':Bool} {K:AV→Prop} (h1:tick b = b'):BoolK K b = BoolK K b':=by rw [tick_eq] at h1;rw [h1]
@[congr] theorem boxVc_congr {nb nb':Nat} {st st':St} {av av':AV} {K:AV→St→Prop} (h0:tick nb = nb') (h:st = st') (h1:av = av'):boxVc nb st av K = boxVc nb' st' av' K:=by rw [tick_eq] at h0;rw [h,h0,h1]
@[congr] theorem rowVc_congr {nb nb' z n:Nat} {st st':St} {av av':AV} {K:AV→St→Prop} (h0:tick nb = nb') (h:st = st') (h1:av = av'):rowVc nb st z n av K = rowVc nb' st' z n av' K:=by rw [tick_eq] at h0;rw [h,h0,h1]
@[congr] theorem storeVc_congr {nb nb':Nat} {st st':St} {av av':AV} {k k':Nat} {q q':Path} {K:AV→St→Prop} (h0:tick nb = nb') (h:st = st') (h1:av = av') (h2:k = k') (h3:q = q'):storeVc nb st av k q K = storeVc nb' st' av' k' q' K:=by rw [tick_eq] at h0;rw [h,h0,h1,h2,h3]
@[congr] theorem appVc_congr {nb nb' z by_:Nat} {st st':St} {b b' x x':AV} {K:AV→St→Prop} (h0:tick nb = nb') (h:st = st') (h1:b = b') (h2:x = x'):appVc nb z by_ st b x K = appVc nb' z by_ st' b' x' K:=by rw [tick_eq] at h0;rw [h,h0,h1,h2]
@[congr] theorem appFresh_congr {nb nb' z by_:Nat} {st st':St} {b b' x x':AV} {K:AV→St→Prop} (h0:tick nb = nb') (h:st = st') (h1:b = b') (h2:x = x'):appFresh nb z by_ st b x K = appFresh nb' z by_ st' b' x' K:=by rw [tick_eq] at h0;rw [h,h0,h1,h2]
@[congr] theorem appSame_congr {nb nb' z by_:Nat} {st st':St} {b b' x x':AV} {K:AV→St→Prop} (h0:tick nb = nb') (h:st = st') (h1:b = b') (h2:x = x'):appSame nb z by_ st b x K = appSame nb' z by_ st' b' x' K:=by rw [tick_eq] at h0;rw [h,h0,h1,h2]
@[congr] theorem appRoot_congr {nb nb' z by_ j lo n:Nat} {st st':St} {x x':AV} {K:AV→St→Prop} (h0:tick nb = nb') (h:st = st') (h2:x = x'):appRoot nb z by_ st j lo n x K = appRoot nb' z by_ st' j lo n x' K:=by rw [tick_eq] at h0;rw [h,h0,h2]
@[congr] theorem appSplit_congr {nb nb' z by_ j n:Nat} {st st':St} {x x':AV} {K:AV→St→Prop} (h0:tick nb = nb') (h:st = st') (h2:x = x'):appSplit nb z by_ st j n x K = appSplit nb' z by_ st' j n x' K:=by rw [tick_eq] at h0;rw [h,h0,h2]
@[congr] theorem partsVc_congr {st st':St} {place:Nat→Option (Nat×Nat)} {s s':AV} {l:List (Nat×Operand)} {K:AV→Prop} (h:tick st = st') (h1:s = s'):partsVc st place s l K = partsVc st' place s' l K:=by rw [tick_eq] at h;rw [h,h1]
@[congr] theorem buildVc_congr {τ:Tab} {st st':St} {t:TypeId} {l:List (Nat×Operand)} {K:AV→Prop} (h:tick st = st'):buildVc τ st t l K = buildVc τ st' t l K:=by rw [tick_eq] at h;rw [h]
@[congr] theorem sliceVc_congr {τ:Tab} {st st':St} {t:TypeId} {x x':AV} {lo lo' hi hi' mx mx':Option AV} {K:AV→Prop} (h:tick st = st') (h1:x = x') (h2:lo = lo') (h3:hi = hi') (h4:mx = mx'):sliceVc τ st t x lo hi mx K = sliceVc τ st' t x' lo' hi' mx' K:=by rw [tick_eq] at h;rw [h,h1,h2,h3,h4]
@[congr] theorem boundVc_congr {x x':Option AV} {d d':Nat} {K:Nat→Prop} (h:tick x = x') (h1:d = d'):boundVc x d K = boundVc x' d' K:=by rw [tick_eq] at h;rw [h,h1]
@[congr] theorem condVc_congr {av av':AV} {t f:Prop} (h:tick av = av'):condVc av t f = condVc av' t f:=by rw [tick_eq] at h;rw [h]
@[congr] theorem thenK_congr {n:St→Prop} {K:Exit→St→Prop} {e e':Exit} {st st':St} (h:tick e = e') (h1:st = st'):thenK n K e st = thenK n K e' st':=by rw [tick_eq] at h;rw [h,h1]
@[congr] theorem blockK_congr {id:Nat} {K:Exit→St→Prop} {e e':Exit} {st st':St} (h:tick e = e') (h1:st = st'):blockK id K e st = blockK id K e' st':=by rw [tick_eq] at h;rw [h,h1]
section
variable {α β:Type} (K:α→Prop)
theorem bind_val (v:Value) (K:AV→Prop):bindK (.val v) K = K (.val v):=rfl
theorem bind_bad (K:AV→Prop):bindK .bad K = K .bad:=rfl
theorem bind_cut (z:Nat) (K:AV→Prop):bindK (.cut z) K = K (.cut z):=rfl
theorem bind_nils (z:Nat) (K:AV→Prop):bindK (.nils z) K = K (.nils z):=rfl
theorem bind_ptr (k:Nat) (q:Path) (K:AV→Prop):bindK (.ptr k q) K = K (.ptr k q):=rfl
theorem bind_sub (k:Nat) (q:Path) (lo n:Nat) (ex:Bool) (K:AV→Prop):bindK (.sub k q lo n ex) K = K (.sub k q lo n ex):=rfl
theorem bind_mp (k:Nat) (q:Path) (K:AV→Prop):bindK (.mp k q) K = K (.mp k q):=rfl
theorem bind_imm (z:Nat) (s:D) (ex:Bool) (K:AV→Prop):bindK (.imm z s ex) K = K (.imm z s ex):=rfl
theorem bind_iptr (d:D) (K:AV→Prop):bindK (.iptr d) K = K (.iptr d):=rfl
theorem bind_nil (K:AV→Prop):bindK .nil K = K .nil:=rfl
theorem bind_cons (a t:AV) (K:AV→Prop):bindK (.cons a t) K = K (.cons a t):=rfl
theorem bind_agg (s:AV) (K:AV→Prop):bindK (.agg s) K = K (.agg s):=rfl
theorem bind_tup (s:AV) (K:AV→Prop):bindK (.tup s) K = K (.tup s):=rfl
theorem bind_fn (f:FuncId) (s:AV) (K:AV→Prop):bindK (.fn f s) K = K (.fn f s):=rfl
theorem bind_some (x:α) (K:Option α→Prop):bindK (some x) K = K (some x):=rfl
theorem bind_none (K:Option α→Prop):bindK none K = K none:=rfl
theorem bind_true (K:Bool→Prop):bindK true K = K true:=rfl
theorem bind_false (K:Bool→Prop):bindK false K = K false:=rfl
theorem bind_pair (x:α) (y:β) (K:α×β→Prop):bindK (x,y) K = K (x,y):=rfl
theorem bind_Sc (u:D) (m:Nat) (X:List D) (κ:List (Nat×Path)) (K:Sc→Prop):bindK ⟨u,m,X,κ⟩ K = K ⟨u,m,X,κ⟩:=rfl
theorem bind_Tk (u:D) (X:List D) (κ:List (Nat×Path)) (pl:List (Path×AV)) (K:Tk→Prop):bindK ⟨u,X,κ,pl⟩ K = K ⟨u,X,κ,pl⟩:=rfl
theorem bind_St (u:Env) (X:List D) (κ:List (Nat×Path)) (pl:List (Nat×Path×AV)) (K:St→Prop):bindK ⟨u,X,κ,pl⟩ K = K ⟨u,X,κ,pl⟩:=rfl
theorem bind_dval (v:Value) (K:D→Prop):bindK (.val v) K = K (.val v):=rfl
theorem bind_djunk (K:D→Prop):bindK (.junk ()) K = K (.junk ()):=rfl
theorem bind_dnil (K:D→Prop):bindK .nil K = K .nil:=rfl
theorem bind_dcons (a t:D) (K:D→Prop):bindK (.cons a t) K = K (.cons a t):=rfl
theorem bind_dagg (s:D) (K:D→Prop):bindK (.agg s) K = K (.agg s):=rfl
theorem bind_dsl (o:Bool) (z:Nat) (s:D) (K:D→Prop):bindK (.sl o () z s) K = K (.sl o () z s):=rfl
theorem bind_dbox (o:Bool) (s:D) (K:D→Prop):bindK (.box o () s) K = K (.box o () s):=rfl
theorem bind_dmap (o:Bool) (s:D) (K:D→Prop):bindK (.map o () s) K = K (.map o () s):=rfl
end
section
variable {c:Cx} {τ:Tab} {gs:List (Nat×Tmp)} {st:St}
theorem vc_nil {i:Nat} {K:St→Prop}:vcOps c τ gs [] i st K = K st:=rfl
theorem vc_cons {dst:Option Tmp} {op:Op} {ty:TypeId} {pos:String} {after:Array Edge} {r:List Oper} {i:Nat} {K:St→Prop} :
  vcOps c τ gs (⟨dst,op,ty,pos,after,none⟩ :: r) i st K = opVc c τ ⟨dst,op,ty,pos,after,none⟩ st fun av st'=>putVc gs i dst av st' fun st=>vcOps c τ gs r (i + 1) st K:=rfl
theorem vc_guard {dst:Option Tmp} {op:Op} {ty:TypeId} {pos:String} {after:Array Edge} {g:Nat×Bool} {r:List Oper} {i:Nat} {K:St→Prop} :
  vcOps c τ gs (⟨dst,op,ty,pos,after,some g⟩ :: r) i st K = bindK (guardOf gs st (some g)) fun b=>match b with
   | some true=>opVc c τ ⟨dst,op,ty,pos,after,some g⟩ st fun av st'=>putVc gs i dst av st' fun st=>vcOps c τ gs r (i + 1) st K
   | some false=>vcOps c τ gs r (i + 1) (st.put dst (.tup .nil)) K
   | none=>False:=rfl
theorem put_eq {i:Nat} {dst:Option Tmp} {av:AV} {K:St→Prop}:putVc gs i dst av st K = bindK (glook gs i) fun b=>match b with
  | some _=>bindK av fun av=>match av with
   | .val (.bool b)=>(b = true→K (st.put dst (.val (.bool true))))∧(b = false→K (st.put dst (.val (.bool false))))
   | av=>K (st.put dst av)
  | none=>K (st.put dst av):=by
 unfold putVc bindK
 cases glook gs i with
 | none=>rfl
 | some t=>split <;> simp_all
section
variable {dst:Option Tmp} {ty:TypeId} {pos:String} {after:Array Edge} {g:Option (Nat×Bool)} {K:AV→St→Prop}
theorem op_load {t:TypeId} {x:Operand}:opVc c τ ⟨dst,.load t x,ty,pos,after,g⟩ st K = loadVc τ (.load t x) st fun av=>K av st:=rfl
theorem op_store {t:TypeId} {p x:Operand}:opVc c τ ⟨dst,.store t p x,ty,pos,after,g⟩ st K = effVc τ c.F0.length (.store t p x) st K:=rfl
theorem op_alloc {t:TypeId}:opVc c τ ⟨dst,.alloc t,ty,pos,after,g⟩ st K = effVc τ c.F0.length (.alloc t) st K:=rfl
theorem op_box {t:TypeId} {x:Operand}:opVc c τ ⟨dst,.box t x,ty,pos,after,g⟩ st K = effVc τ c.F0.length (.box t x) st K:=rfl
theorem op_row {t:TypeId} {n:Nat} {ps:Array (Nat×Operand)}:opVc c τ ⟨dst,.buildSlice t n ps,ty,pos,after,g⟩ st K = effVc τ c.F0.length (.buildSlice t n ps) st K:=rfl
theorem op_build {t:TypeId} {ps:List (Nat×Operand)}:opVc c τ ⟨dst,.build t ps.toArray,ty,pos,after,g⟩ st K = buildVc τ st t ps fun av=>K av st:=by simp [opVc]
theorem op_slice {t:TypeId} {x:Operand} {lo hi mx:Option Operand}:opVc c τ ⟨dst,.slice t x lo hi mx,ty,pos,after,g⟩ st K =
  ((mx≠none→hi≠none)∧sliceVc τ st t (st.evT τ t x) (lo.map st.ev) (hi.map st.ev) (mx.map st.ev) fun av=>K av st):=rfl
theorem op_append {x y:Operand} {t:TypeId}:opVc c τ ⟨dst,.call ⟨.builtin .append,#[x,y],#[t,t]⟩,ty,pos,after,g⟩ st K = effVc τ c.F0.length (.call ⟨.builtin .append,#[x,y],#[t,t]⟩) st K:=by
 simp [opVc,twoTy]
theorem op_len {as:Array Operand} {ts:Array TypeId}:opVc c τ ⟨dst,.call ⟨.builtin .len,as,ts⟩,ty,pos,after,g⟩ st K = pureVc τ (.call ⟨.builtin .len,as,ts⟩) ty st fun av=>K av st:=rfl
theorem op_call {f:Operand} {as:List Operand} {ts:List TypeId}:opVc c τ ⟨dst,.call ⟨.value f,as.toArray,ts.toArray⟩,ty,pos,after,g⟩ st K = bindK (st.ev f) fun f=>match f with
  | .fn h s=>s.isSeq = true∧CallW c h ((argsOf τ st as ts).app s) st K
  | _=>False:=rfl
theorem op_bin {op:BinOp} {t ty2:TypeId} {x y:Operand}:opVc c τ ⟨dst,.binOp op t x y ty2,ty,pos,after,g⟩ st K = bindK (st.ev x) fun x=>bindK (st.ev y) fun y=>match x,y with
  | .agg s,.agg u=>(op = .eql∨op = .neq)∧EqK c.P t op s u fun av=>K av st
  | x,y=>binVc τ op t x y fun av=>K av st:=by
 unfold opVc bindK
 simp only
 split
 ·simp_all
 ·rename_i h
  split
  ·rename_i s u h1 h2;exact absurd h2 (h s u h1)
  ·rfl
end
section
variable {ty:TypeId} {K:AV→Prop}
theorem op_move {dst:Option Tmp} {pos:String} {after:Array Edge} {g:Option (Nat×Bool)} {K:AV→St→Prop} {x:Operand}:opVc c τ ⟨dst,.move x,ty,pos,after,g⟩ st K = bindK (st.evT τ ty x) fun av=>K av st:=rfl
theorem op_assign {dst:Option Tmp} {pos:String} {after:Array Edge} {g:Option (Nat×Bool)} {K:AV→St→Prop} {x:Operand}:opVc c τ ⟨dst,.assign x,ty,pos,after,g⟩ st K = bindK (st.evT τ ty x) fun av=>K av st:=rfl
theorem op_pick {dst:Option Tmp} {pos:String} {after:Array Edge} {g:Option (Nat×Bool)} {K:AV→St→Prop} {x a b:Operand}:opVc c τ ⟨dst,.pick x a b,ty,pos,after,g⟩ st K = bindK (st.ev x) fun x=>match x with
  | .val (.bool t)=>(t = true→K (st.evT τ ty a) st)∧(t = false→K (st.evT τ ty b) st)
  | _=>False:=rfl
theorem op_nilCheck {dst:Option Tmp} {pos:String} {after:Array Edge} {g:Option (Nat×Bool)} {K:AV→St→Prop} {x:Operand}:opVc c τ ⟨dst,.nilCheck x,ty,pos,after,g⟩ st K = bindK (st.ev x) fun x=>match x with
  | .ptr k q=>K (.ptr k q) st
  | .iptr d=>K (.iptr d) st
  | .fn f s=>K (.fn f s) st
  | .mp k q=>K (.mp k q) st
  | _=>False:=rfl
theorem op_unOp {dst:Option Tmp} {pos:String} {after:Array Edge} {g:Option (Nat×Bool)} {K:AV→St→Prop} {op:UnOp} {t:TypeId} {x:Operand}:opVc c τ ⟨dst,.unOp op t x,ty,pos,after,g⟩ st K = bindK (st.ev x) fun x=>match op,x with
  | .not,.val (.bool b)=>BoolK (fun av=>K av st) (!b)
  | .neg,.val (.int k n)=>K (.val (.int k (k.wrap (0 - n)))) st
  | _,_=>False:=rfl
theorem op_convert {dst:Option Tmp} {pos:String} {after:Array Edge} {g:Option (Nat×Bool)} {K:AV→St→Prop} {src dt:TypeId} {x:Operand}:opVc c τ ⟨dst,.convert src dt x,ty,pos,after,g⟩ st K =
  bindK (τ src).int fun s=>bindK (τ dt).int fun d=>bindK (st.ev x) fun x=>match s,d,x with
  | some _,some k,.val (.int _ n)=>K (.val (.int k (k.wrap n))) st
  | _,_,_=>False:=rfl
theorem op_fieldAddr {dst:Option Tmp} {pos:String} {after:Array Edge} {g:Option (Nat×Bool)} {K:AV→St→Prop} {t:TypeId} {x:Operand} {i:Nat}:opVc c τ ⟨dst,.fieldAddr t x i,ty,pos,after,g⟩ st K = bindK (st.ev x) fun x=>match x with
  | .ptr k q=>fieldVc τ t ((st.tree k).at_ q) i∧K (.ptr k (q ++ [.f i])) st
  | .iptr d=>fieldVc τ t d i∧K (.iptr (d.at_ [.f i])) st
  | _=>False:=rfl
theorem op_indexAddr {dst:Option Tmp} {pos:String} {after:Array Edge} {g:Option (Nat×Bool)} {K:AV→St→Prop} {t:TypeId} {x ix:Operand}:opVc c τ ⟨dst,.indexAddr t x ix,ty,pos,after,g⟩ st K =
  bindK (st.ev x) fun x=>bindK (st.ev ix) fun ix=>match x,ix with
  | .sub k q lo n _,.val (.int _ i)=>((τ t).sl.map fun y=>y.2.1) = some ((st.tree k).at_ q).esz∧(0≤i∧i < (n:Int))∧K (.ptr k (q ++ [.i (lo + i.toNat)])) st
  | .imm z s _,.val (.int _ i)=>((τ t).sl.map fun y=>y.2.1) = some z∧(0≤i∧i < (s.len:Int))∧K (.iptr (s.nth i.toNat)) st
  | .ptr k q,.val (.int _ i)=>arrVc τ t ((st.tree k).at_ q) i∧K (.ptr k (q ++ [.f i.toNat])) st
  | .iptr d,.val (.int _ i)=>arrVc τ t d i∧K (.iptr (d.at_ [.f i.toNat])) st
  | _,_=>False:=rfl
theorem op_index {dst:Option Tmp} {pos:String} {after:Array Edge} {g:Option (Nat×Bool)} {K:AV→St→Prop} {t:TypeId} {x ix:Operand}:opVc c τ ⟨dst,.index t x ix,ty,pos,after,g⟩ st K =
  bindK (st.ev x) fun x=>bindK (st.ev ix) fun ix=>match x,ix with
  | .agg s,.val (.int _ i)=>(τ t).ae = true∧((0≤i∧i < (s.len:Int))∧((τ t).ar.bind fun a=>if a.1 = s.len then some (i.toNat * a.2) else none) = some (s.offs i.toNat))∧(s.nth i.toNat).isOne = true∧K (s.nth i.toNat) st
  | _,_=>False:=rfl
theorem op_extract {dst:Option Tmp} {pos:String} {after:Array Edge} {g:Option (Nat×Bool)} {K:AV→St→Prop} {x:Operand} {i:Nat}:opVc c τ ⟨dst,.extract x i,ty,pos,after,g⟩ st K = bindK (st.ev x) fun x=>match x with
  | .tup (.cons a t)=>i < (AV.cons a t).len∧K ((AV.cons a t).nth i) st
  | _=>False:=rfl
theorem pure_len {x:Operand} {t:TypeId}:pureVc τ (.call ⟨.builtin .len,#[x],#[t]⟩) ty st K = bindK (st.ev x) fun x=>match x with
  | .sub _ _ _ n _=>(τ t).sl.isSome = true∧K (.val (.int .i64 (n:Int)))
  | .imm _ s _=>(τ t).sl.isSome = true∧K (.val (.int .i64 (s.len:Int)))
  | .nils _=>(τ t).sl.isSome = true∧K (.val (.int .i64 0))
  | .cut n=>(τ t).sl.isSome = true∧K (.val (.int .i64 (n:Int)))
  | .val (.string s)=>(τ t).str = true∧K (.val (.int .i64 (s.size:Int)))
  | _=>False:=rfl
theorem load_eq {t:TypeId} {x:Operand}:loadVc τ (.load t x) st K = bindK (st.ev x) fun x=>match x with
  | .ptr k q=>bindK ((st.tree k).at_ q) fun d=>ldOk τ t d∧K (AV.ofD st.pl k q 0 d)
  | .iptr d=>ldOk τ t d∧K (AV.ofI d)
  | _=>False:=rfl
end
section
variable {nb:Nat} {K:AV→St→Prop}
theorem eff_store {t:TypeId} {p x:Operand}:effVc τ nb (.store t p x) st K = bindK (st.ev p) fun p=>match p with
  | .ptr k q=>bindK (st.evT τ t x) fun av=>av.isCell = true∧((τ t).ld.map fun y=>y.2) = some av.width∧storeVc nb st av k q K
  | _=>False:=rfl
theorem eff_alloc {t:TypeId}:effVc τ nb (.alloc t) st K = bindK (τ t).zero fun z=>match z with
  | some g=>bindK (AV.ofZ g) fun av=>av.isCell = true∧boxVc nb st av K
  | none=>False:=by
 unfold effVc bindK
 simp only
 split <;> simp_all [bindK]
theorem eff_box {t:TypeId} {x:Operand}:effVc τ nb (.box t x) st K = bindK (st.evT τ t x) fun av=>av.isCell = true∧boxVc nb st av K:=rfl
theorem eff_row {t:TypeId} {n:Nat} {ps:List (Nat×Operand)}:effVc τ nb (.buildSlice t n ps.toArray) st K = bindK (τ t).sl fun s=>match s with
  | some (e,z,_,_)=>bindK (τ e).zero fun g=>match g with
   | some g=>n * z≤16777216∧n≤16777216∧g.width = z∧0 < z ∧
     partsVc st (fun i=>some (i * z,z)) (AV.ofList (List.replicate n (AV.ofZ g))) ps fun s=>s.isSeq = true∧rowVc nb st z n s K
   | none=>False
  | none=>False:=by
 unfold effVc bindK
 simp only
 cases (τ t).sl with
 | none=>rfl
 | some x =>
  obtain ⟨e,z,a,b⟩:=x
  simp only
  cases (τ e).zero <;> rfl
theorem eff_append {x y:Operand} {t u:TypeId}:effVc τ nb (.call ⟨.builtin .append,#[x,y],#[t,u]⟩) st K = bindK (τ t).sl fun s=>match s with
  | some (_,z,by_,_)=>t = u∧appVc nb z by_ st (st.evT τ t x) (st.evT τ t y) K
  | none=>False:=rfl
theorem box_eq {av:AV}:boxVc nb st av K = bindK (av.lay nb st.X) fun r=>K (.ptr r.X.length [.d]) ((st.moved r).push r (.d :: ·) (.box true () r.d)):=rfl
theorem row_eq {z n:Nat} {av:AV}:rowVc nb st z n av K = bindK (av.lay nb st.X) fun r=>r.d.uni z∧r.d.len = n∧K (.sub r.X.length [] 0 n true) ((st.moved r).push r toI (.sl true () z r.d)):=rfl
theorem store_eq {av:AV} {k:Nat} {q:Path}:storeVc nb st av k q K = bindK (av.lay nb st.X) fun r=>(r.tree k).okp q = true∧r.d.width = ((r.tree k).at_ q).width∧K .bad (st.stored nb r k q):=rfl
theorem app_eq {z by_:Nat} {b x:AV}:appVc nb z by_ st b x K = bindK b fun b=>match b with
  | .sub j q lo n ex=>bindK ex fun ex=>match ex,q,n with
   | true,[],0=>bindK (Nat.ble nb j) fun o=>match o with
    | true=>appRoot nb z by_ st j lo 0 x K
    | false=>bindK (x.src nb z st.X) fun r=>match r with
     | some r=>bindK (Nat.blt 0 r.m) fun m=>match m with
      | true=>appFresh nb z by_ st (.sub j [] lo 0 true) x K
      | false=>appSame nb z by_ st (.sub j [] lo 0 true) x K
     | none=>False
   | true,q,n=>bindK (x.src nb z st.X) fun r=>match r with
    | some r=>bindK (Nat.blt 0 r.m) fun m=>match m with
     | true=>appFresh nb z by_ st (.sub j q lo n true) x K
     | false=>appSame nb z by_ st (.sub j q lo n true) x K
    | none=>False
   | false,[],n=>bindK (marked st.κ j && Nat.beq lo 0) fun c=>match c with
    | true=>appSplit nb z by_ st j n x K
    | false=>appRoot nb z by_ st j lo n x K
   | false,q,n=>appFresh nb z by_ st (.sub j q lo n false) x K
  | b=>appFresh nb z by_ st b x K:=by
 unfold appVc bindK
 cases b with
 | sub j q lo n ex =>
  cases ex with
  | true =>
   cases q with
   | nil =>
    cases n with
    | zero =>
     simp only
     cases Nat.ble nb j with
     | true=>rfl
     | false =>
      simp only [cond_false]
      cases x.src nb z st.X with
      | none=>rfl
      | some r=>simp only;cases Nat.blt 0 r.m <;> rfl
    | succ n =>
     simp only
     cases x.src nb z st.X with
     | none=>rfl
     | some r=>simp only;cases Nat.blt 0 r.m <;> rfl
   | cons s q =>
    simp only
    cases x.src nb z st.X with
    | none=>rfl
    | some r=>simp only;cases Nat.blt 0 r.m <;> rfl
  | false =>
   cases q with
   | nil=>simp only;cases (marked st.κ j && Nat.beq lo 0) <;> rfl
   | cons _ _=>rfl
 | _=>rfl
theorem root_eq {z by_ j lo n:Nat} {x:AV}:appRoot nb z by_ st j lo n x K = bindK (x.src nb z st.X) fun r=>match r with
  | some r=>bindK (r.X[j]?) fun g=>match g with
   | some (.sl true () z' s)=>z' = z∧Nat.ble nb j = true∧fits n r.m by_ ∧
    K (.sub j [] 0 (n + r.m) false) { st with env:=st.env.kill (r.κ ++ [(j,[])]),X:=r.X.set j (.sl true () z ((s.mid lo n).app r.u)),pl:=plKill (r.κ ++ [(j,[])]) st.pl }
   | _=>False
  | none=>False:=by
 unfold appRoot bindK
 cases x.src nb z st.X <;> rfl
theorem split_eq {z by_ j n:Nat} {x:AV}:appSplit nb z by_ st j n x K = (appFresh nb z by_ st (.sub j [] 0 n true) x K∧bindK (x.src nb z st.X) fun r=>match r with
  | some r=>r.m = 1∧bindK (r.X[j]?) fun g=>match g with
   | some (.sl true () z' s)=>z' = z∧Nat.ble nb j = true∧fits n r.m by_ ∧
    K (.sub j [] 0 (n + r.m) false) { env:=st.env.keepS j n (r.κ ++ [(j,[])]),X:=r.X.set j (.sl true () z ((s.mid 0 n).app r.u)),κ:=st.κ.filter fun e=>!Nat.beq e.1 j,pl:=plKill (r.κ ++ [(j,[])]) st.pl }
   | _=>False
  | none=>False):=by
 unfold appSplit bindK
 cases x.src nb z st.X <;> rfl
theorem same_eq {z by_:Nat} {b x:AV}:appSame nb z by_ st b x K = bindK (b.src nb z st.X) fun rb=>bindK (x.src nb z st.X) fun r=>match rb,r with
  | some rb,some r=>r.κ = []∧r.m = 0∧fits rb.m 0 by_∧K b st
  | _,_=>False:=rfl
theorem fresh_eq {z by_:Nat} {b x:AV}:appFresh nb z by_ st b x K = bindK (b.src nb z st.X) fun rb=>bindK (x.src nb z st.X) fun r=>match rb,r with
  | some rb,some r=>rb.u.free = true∧b.tight r.m = true∧fits rb.m r.m by_ ∧
    K (.sub r.X.length [] 0 (rb.m + r.m) false) { st with env:=st.env.kill r.κ,X:=r.X ++ [.sl true () z (rb.u.app r.u)],pl:=plKill r.κ st.pl }
  | _,_=>False:=rfl
theorem parts_nil {place:Nat→Option (Nat×Nat)} {s:AV} {K:AV→Prop}:partsVc st place s [] K = K s:=rfl
theorem parts_cons {place:Nat→Option (Nat×Nat)} {s:AV} {i:Nat} {x:Operand} {r:List (Nat×Operand)} {K:AV→Prop}:partsVc st place s ((i,x) :: r) K = bindK (st.evZ (s.nth i) x) fun av =>
  i < s.len∧av.isCell = true∧av.width = (s.nth i).width∧place i = some (s.offs i,(s.nth i).width)∧partsVc st place (s.setN i av) r K:=rfl
theorem build_eq {t:TypeId} {l:List (Nat×Operand)} {K:AV→Prop}:buildVc τ st t l K = bindK (τ t).zero fun z=>bindK (τ t).st fun s=>bindK (τ t).ar fun a=>match z,s,a with
  | some (.agg s),some l',_=>partsVc st (fun i=>l'[i]?) (AV.ofZ s) l fun r=>K (.agg r)
  | some (.agg s),none,some (_,z)=>partsVc st (fun i=>some (i * z,z)) (AV.ofZ s) l fun r=>K (.agg r)
  | _,_,_=>False:=rfl
theorem slice_eq {t:TypeId} {x:AV} {lo hi mx:Option AV} {K:AV→Prop}:sliceVc τ st t x lo hi mx K = bindK x fun x=>match x with
  | .sub k q l0 n ex=>((τ t).sl.map fun y=>y.2.1) = some ((st.tree k).at_ q).esz ∧
   boundVc lo 0 fun l=>boundVc hi n fun h=>boundVc mx h fun m=>l≤h∧h≤n∧m = h∧K (.sub k q (l0 + l) (h - l) (mx.isSome || (ex && hi.isNone)))
  | .imm z s ex=>((τ t).sl.map fun y=>y.2.1) = some z ∧
   boundVc lo 0 fun l=>boundVc hi s.len fun h=>boundVc mx h fun m=>l≤h∧h≤s.len∧m = h∧K (.imm z (s.mid l (h - l)) (mx.isSome || (ex && hi.isNone)))
  | .nils z=>(τ t).sl.isSome = true∧boundVc lo 0 fun l=>boundVc hi 0 fun h=>boundVc mx h fun m=>l≤h∧h≤0∧m = h∧K (.nils z)
  | .val (.string s)=>(τ t).str = true∧mx = none ∧
   boundVc lo 0 fun l=>boundVc hi s.size fun h=>l≤h∧h≤s.size∧K (.val (.string (s.extract l h)))
  | _=>False:=rfl
theorem cond_eq {av:AV} {t f:Prop}:condVc av t f = bindK av fun av=>match av with
  | .val (.bool b)=>(b = true→t)∧(b = false→f)
  | _=>False:=rfl
theorem guard_eq {g:Nat} {want:Bool} {K:Option Bool→Prop}:bindK (guardOf gs st (some (g,want))) K = bindK (glook gs g) fun t=>match t with
  | some t=>bindK (look st.env t) fun av=>match av with
   | .val (.bool b)=>bindK b fun b=>K (some (b == want))
   | .tup _=>K (some false)
   | _=>K none
  | none=>K none:=by
 unfold bindK
 simp only [guardOf]
 cases glook gs g with
 | none=>rfl
 | some t =>
  simp only
  cases look st.env t with
  | val v=>cases v <;> rfl
  | _=>rfl
end
end
end Go.Vc

/- A function by its body. -/
namespace Go.Vc
set_option linter.all false
open T (hdr blk)
def resVc (τ:Tab) (st:St):List ResultVar→(AV→Prop)→Prop
 | [],K=>K .nil
 | .tmp t :: r,K=>bindK (look st.env t) fun av=>resVc τ st r fun s=>K (.cons av s)
 | .cell a t :: r,K=>loadVc τ (.load t (.tmp a)) st fun av=>resVc τ st r fun s=>K (.cons av s)
def retOf:AV→AV
 | .cons a .nil=>a
 | s=>.tup s
def retK (τ:Tab) (rs:List ResultVar) (R:AV→List D→List (Nat×Path)→Prop):Exit→St→Prop
 | .normal,st=>resVc τ st rs fun s=>R (retOf s) st.X st.κ
 | .ret,st=>resVc τ st rs fun s=>R (retOf s) st.X st.κ
 | _,_=>False
@[congr] theorem resVc_congr {τ:Tab} {st st':St} {l:List ResultVar} {K:AV→Prop} (h:tick st = st'):resVc τ st l K = resVc τ st' l K:=by rw [tick_eq] at h;rw [h]
@[congr] theorem retK_congr {τ:Tab} {rs:List ResultVar} {R:AV→List D→List (Nat×Path)→Prop} {e e':Exit} {st st':St} (h:tick e = e') (h1:st = st'):retK τ rs R e st = retK τ rs R e' st':=by rw [tick_eq] at h;rw [h,h1]
def envOf:Nat→AV→Env
 | i,.cons a t=>(i,a) :: envOf (i + 1) t
 | _,_=>[]
def resOf (tmps:Array Value):ResultVar→Sem Value
 | .tmp t=>pure (tmps.getD t undef)
 | .cell x t=>do loadVar t (←asAddr (tmps.getD x undef))
theorem results_eq (fn:Func) (tmps:Array Value):results fn tmps = (do let vs ←fn.results.mapM (resOf tmps);pure (if h:vs.size = 1 then vs[0] else .tuple vs)):=by
 rfl
def AV.isList:AV→Bool
 | .nil=>true
 | .cons _ t=>t.isList
 | _=>false
theorem results_ok {c:Cx} {τ:Tab} (hτ:Tab.Ok c.P τ) {st:St} {a:Act} {w:World} {I:Nat→Prop} {F:List G} (hi:Inv c st.X st.κ w I F) (he:EnvOk st.env a w I F) (hp:PlOk st.pl w I F) :
  ∀ (rs:List ResultVar) (K:AV→Prop),resVc τ st rs K→∃ s vs,K s∧Rl w.heap I F s true vs∧s.isList = true∧(rs.mapM (resOf a.tmps)).run c.P w = .ok vs w
 | [],K,h=>⟨.nil,[],h,rfl,rfl,rfl⟩
 | .tmp t :: r,K,h=>by
  obtain ⟨s,vs,h1,h2,h3,h4⟩:=results_ok hτ hi he hp r _ h
  refine ⟨_,_ :: vs,h1,⟨_,_,rfl,he t,h2⟩,h3,?_⟩
  simp only [List.mapM_cons,resOf,Sem.run_bind,Sem.run_pure,Result.andThen_ok,h4]
 | .cell x t :: r,K,h=>by
  obtain ⟨av,v,h5,h6,h7⟩:=load_ok hτ hi he hp (o:=⟨none,.load t (.tmp x),0, "",#[],none⟩) h
  obtain ⟨s,vs,h1,h2,h3,h4⟩:=results_ok hτ hi he hp r _ h5
  refine ⟨_,v :: vs,h1,⟨_,_,rfl,h6,h2⟩,h3,?_⟩
  have h8:=h7 w fun _ _=>rfl
  have h9:(resOf a.tmps (.cell x t)).run c.P w = .ok v w:=by
   have e0:resOf a.tmps (.cell x t) = (asAddr (a.tmps.getD x undef)).bind fun ad=>loadVar t ad:=rfl
   rw [e0]
   simp only [execOp,Instr.loadAt,Act.eval] at h8
   generalize a.tmps.getD x undef = v0 at h8
   cases v0 with
   | pointer o =>
    cases o with
    | none=>simp [Instr.sureAddr] at h8
    | some ad =>
     simp only [Instr.sureAddr,Sem.run_bind,Sem.run_pure,Result.andThen_ok] at h8
     show (loadVar t ad).run c.P w = .ok v w
     cases hl:(loadVar t ad).run c.P w with
     | ok v' w'=>rw [hl] at h8;simp only [Result.andThen_ok,Result.ok.injEq,Next.value.injEq] at h8;rw [h8.1,h8.2]
     | halt x w'=>rw [hl] at h8;simp at h8
   | _=>simp [Instr.sureAddr] at h8
  simp only [List.mapM_cons,Sem.run_bind,h9,Sem.run_pure,Result.andThen_ok,h4]
theorem Rl.list_len {h:Array Obj} {I:Nat→Prop} {F:List G}:∀ {s:AV} {vs:List Value},s.isList = true→Rl h I F s true vs→s.len = vs.length
 | .nil,_,_,H=>by cases H;rfl
 | .cons _ t,_,hs,⟨v,vs',e,_,h2⟩=>by subst e;simp only [AV.len,List.length_cons];rw [Rl.list_len (s:=t) hs h2]
theorem envOf_ok {h:Array Obj} {I:Nat→Prop} {F:List G}:∀ {s:AV} {vs:List Value} (i t:Nat),s.isList = true→Rl h I F s true vs→∀ v,(i≤t→vs[t - i]? = some v)→(t < i→False)→Rl h I F (look (envOf i s) t) true [v]
 | .nil,_,i,t,_,_,v,_,_=>⟨v,rfl⟩
 | .cons a r,_,i,t,hs,⟨u,vs',e,h1,h2⟩,v,hv,hlt=>by
  subst e
  simp only [envOf,look]
  split
  ·rename_i hit
   subst hit
   have:=hv (Nat.le_refl _)
   simp at this
   subst this;exact h1
  ·rename_i hne
   refine envOf_ok (s:=r) (i + 1) t hs h2 v (fun hle=>?_) (fun h=>?_)
   ·have:=hv (by omega)
    rw [show t - i = (t - (i + 1)) + 1 by omega] at this
    simpa using this
   ·rcases Nat.lt_or_ge t i with h' | h'
    ·exact hlt h'
    ·omega
theorem envOf_bad:∀ {s:AV} (i t:Nat),s.isList = true→i + s.len≤t→look (envOf i s) t = .bad
 | .nil,_,_,_,_=>rfl
 | .cons a r,i,t,hs,hl=>by
  simp only [envOf,look,AV.len] at *
  rw [if_neg (by omega)]
  exact envOf_bad (i + 1) t hs (by omega)
def book:Obj→Prop
 | .deferred _=>True
 | .loop _=>True
 | _=>False
def live (h:Array Obj) (b:Nat):Prop:=∀ o,h[b]? = some o→¬ book o
theorem live_of {h:Array Obj} {b:Nat} {o:Obj} (e:h[b]? = some o) (hn:¬ book o):live h b:=fun o' e'=>by rw [e] at e';cases e';exact hn
theorem Holds.live {h:Array Obj} {I:Nat→Prop} {g:G} (H:T.Holds h I g):T.Holds h (fun b=>I b∧live h b) g:=by
 induction g with
 | val v=>exact H
 | junk a=>exact H
 | nil=>trivial
 | cons x t ihx iht=>exact ⟨ihx H.1,iht H.2⟩
 | agg s ih=>exact ih H
 | sl own a z s ih =>
  obtain ⟨h1,h2,h3,h4⟩:=H
  refine ⟨ih h1,h2,h3,?_⟩
  split at h4
  ·exact h4
  ·exact h4
  ·obtain ⟨g1,g2,g3,g4,g5,row,e,fr,g6,g7⟩:=h4
   exact ⟨g1,g2,g3,g4,fun hf=>⟨g5 hf,live_of g6 (by simp [book])⟩,row,e,fr,g6,g7⟩
  ·exact h4.elim
 | box own a g ih =>
  obtain ⟨h1,h3,h4⟩:=H
  refine ⟨ih h1,h3,?_⟩
  split at h4
  ·obtain ⟨g1,g2,g3,row,e,fr,g6,g7⟩:=h4
   exact ⟨g1,fun hf=>⟨g2 hf,live_of g6 (by simp [book])⟩,g3,row,e,fr,g6,g7⟩
  ·exact h4.elim
 | map own a s ih =>
  obtain ⟨h1,h3,h4⟩:=H
  refine ⟨ih h1,h3,?_⟩
  split at h4
  ·obtain ⟨g1,es,c,g6,g7⟩:=h4
   exact ⟨fun hf=>⟨g1 hf,live_of g6 (by simp [book])⟩,es,c,g6,g7⟩
  ·exact h4.elim
theorem Rl.live {h:Array Obj} {I:Nat→Prop} {F:List G} {av:AV} {m:Bool} {vs:List Value} (H:Rl h I F av m vs):Rl h (fun b=>I b∧live h b) F av m vs:=by
 induction av generalizing m vs with
 | bad=>cases m <;> exact H
 | val v=>cases m <;> exact H
 | nils z=>cases m <;> exact H
 | cut z=>cases m <;> exact H
 | ptr k q=>cases m <;> exact H
 | sub k q lo n ex=>cases m <;> exact H
 | mp k q=>cases m <;> exact H
 | imm z s ex=>cases m <;> (obtain ⟨v,h1,s',h2,h3,h4⟩:=H;exact ⟨v,h1,s',h2,Holds.live h3,h4⟩)
 | iptr d =>
  cases m <;> (obtain ⟨v,h1,g,x,h2,h3,h4,h5,h6,h7,h8⟩:=H;obtain ⟨row,e,fr,k1,k2⟩:=id h8;exact ⟨v,h1,g,x,h2,Holds.live h3,h4,h5,h6,⟨h7,live_of k1 (by simp [book])⟩,h8⟩)
 | nil=>cases m <;> exact H
 | cons a t iha iht =>
  cases m
  ·obtain ⟨v1,v2,h1,h2,h3⟩:=H
   exact ⟨v1,v2,h1,iha h2,iht h3⟩
  ·obtain ⟨v1,v2,h1,h2,h3⟩:=H
   exact ⟨v1,v2,h1,iha h2,iht h3⟩
 | agg s ih =>
  cases m
  ·exact ih (m:=false) H
  ·obtain ⟨cs,h1,h2⟩:=H
   exact ⟨cs,h1,ih h2⟩
 | tup s ih =>
  cases m
  ·exact H
  ·obtain ⟨cs,h1,h2⟩:=H
   exact ⟨cs,h1,ih h2⟩
 | fn f s ih =>
  cases m <;> (obtain ⟨cs,h1,h2⟩:=H;exact ⟨cs,h1,ih h2⟩)
structure Shut (Ds:List Nat) (w w':World):Prop where
 heap:∀ b,b < w.heap.size→b∉Ds→w'.heap[b]? = w.heap[b]?
 size:w.heap.size≤w'.heap.size
 os:w'.os = w.os
 tape:w'.tape = w.tape
 output:w'.output = w.output
theorem own_not_book {F:List G} {h:Array Obj} {I:Nat→Prop} (H:∀ g∈F,T.Holds h I g) {D:Nat} {o:Obj} (hD:h[D]? = some o) (ho:book o):D∉own F:=fun hm=>by
 simp only [own,List.mem_flatMap] at hm
 obtain ⟨g,hg,hm⟩:=hm
 exact own_no hD (fun _ _ _ e=>by subst e;exact ho) (fun _ _ e=>by subst e;exact ho) g (H g hg) hm
theorem Rel.shut {c:Cx} {st:St} {a:Act} {w w':World} {I:Nat→Prop} {F:List G} (hil:∀ b,c.I0 b→b < c.w0.heap.size) (hi:Inv c st.X st.κ w I F) (he:EnvOk st.env a w I F) (hp:PlOk st.pl w I F) {Ds:List Nat}
  (hD:∀ D∈Ds,c.w0.heap.size≤D∧∃ o,w.heap[D]? = some o∧book o) (s:Shut Ds w w'):∃ I',Inv c st.X st.κ w' I' F∧EnvOk st.env a w' I' F∧PlOk st.pl w' I' F:=by
 have hown:∀ b∈own F,b∉Ds:=fun b hb hm=>by obtain ⟨_,o,h1,h2⟩:=hD b hm;exact own_not_book hi.holds h1 h2 hb
 have hlow:∀ b,b < c.w0.heap.size→b∉Ds:=fun b hb hm=>by have:=(hD b hm).1;omega
 have hlive:∀ b,live w.heap b→b∉Ds:=fun b hb hm=>by obtain ⟨_,o,h1,h2⟩:=hD b hm;exact hb o h1 h2
 have hI:∀ b,I b∧live w.heap b→w'.heap[b]? = w.heap[b]?:=fun b hb=>s.heap b (hi.ilt b hb.1) (hlive b hb.2)
 have hmono:∀ b,I b∧live w.heap b→I b∧(b < c.w0.heap.size∨live w.heap b):=fun b hb=>⟨hb.1,.inr hb.2⟩
 have hrl:∀ {av m vs},Rl w.heap I F av m vs→Rl w'.heap (fun b=>I b∧(b < c.w0.heap.size∨live w.heap b)) F av m vs:=fun {av m vs} H =>
  (Rl.live H).agree hI hmono (AV.all_of_alive (κ:=[]) (AV.dies_nil _) (fun _ _ _ _=>rfl) (fun _ _ _ _=>rfl) H)
 refine ⟨fun b=>I b∧(b < c.w0.heap.size∨live w.heap b),?_,fun t=>hrl (he t),fun k q av hm=>?_⟩
 ·exact ⟨hi.erase,fun g hg=>(Holds.live (hi.holds g hg)).agree (fun b hb=>s.heap b (hi.lt b (List.mem_flatMap.2 ⟨g,hg,hb⟩)) (hown b (List.mem_flatMap.2 ⟨g,hg,hb⟩))) hI hmono,hi.nodup,fun b hb h=>hi.apart b hb h.1,
   fun b hb=>Nat.lt_of_lt_of_le (hi.lt b hb) s.size,fun b hb=>Nat.lt_of_lt_of_le (hi.ilt b hb.1) s.size,s.os.trans hi.os,s.tape.trans hi.tape,s.output.trans hi.output,Nat.le_trans hi.size s.size,
   fun b h1 h2=>(s.heap b (Nat.lt_of_lt_of_le h1 hi.size) (hlow b h1)).trans (hi.frame b h1 h2),hi.fresh,fun b hb=>⟨hi.imono b hb,.inl (hil b hb)⟩,fun b hb=>hi.inew b hb.1,hi.base⟩
 ·obtain ⟨g,v,h1,h2,h3⟩:=hp k q av hm
  exact ⟨g,v,h1,h2,hrl h3⟩
theorem leaves_marks {n:Nat} {P:Program} {fn:Func} {tmps:Array Value} {R:Ending→World→Prop}:∀ (Ds:List Nat) (w:World),Ds.Nodup→(∀ D∈Ds,w.heap[D]? = some (.deferred (some []))) →
  (∀ w',Shut Ds w w'→∃ v,(results fn tmps).run P w' = .ok v w'∧R (.returned v) w')→LeavesInM Fence.wide n P fn tmps R (Ds.map mark) .returning w
 | [],w,_,_,h=>h w ⟨fun _ _ _=>rfl,Nat.le_refl _,rfl,rfl,rfl⟩
 | D :: Ds,w,hn,hD,h=>by
  obtain ⟨hn1,hn2⟩:=List.nodup_cons.1 hn
  have hD0:=hD D List.mem_cons_self
  have hlt:D < w.heap.size:=(Array.getElem?_eq_some_iff.1 hD0).1
  refine ⟨by simp,.inl ⟨D,_,rfl,run_takeDeferred hD0,leaves_marks Ds _ hn2 (fun E hE=>?_) fun w' s=>h w' ?_⟩⟩
  ·have hne:D≠E:=fun e=>hn1 (e ▸ hE)
   show (w.heap.setIfInBounds D _)[E]? = _
   rw [Array.getElem?_setIfInBounds_ne hne]
   exact hD E (List.mem_cons_of_mem _ hE)
  ·have hsz:(w.heap.setIfInBounds D (.deferred none)).size = w.heap.size:=by simp
   have hs1:w.heap.size≤w'.heap.size:=by have:=s.size;rw [←hsz];exact this
   refine ⟨fun b hl hb=>?_,hs1,s.os,s.tape,s.output⟩
   have hne:D≠b:=fun e=>hb (by simp [e])
   rw [s.heap b (by show b < (w.heap.setIfInBounds D (.deferred none)).size;rw [hsz];exact hl) fun hm=>hb (List.mem_cons_of_mem _ hm)]
   show (w.heap.setIfInBounds D _)[b]? = _
   rw [Array.getElem?_setIfInBounds_ne hne]
theorem Meets.of_vcI {P:Program} {τ:Tab} (hτ:Tab.Ok P τ) {f:FuncId} {fn:Func} {body:Code} {Y:List D} {args:AV} {R:AV→List D→List (Nat×Path)→Prop}
  (hf:P.funcs[f]? = some fn) (hb:fn.body = some body) (hname:(fn.name == "runtime.NumGoroutine") = false) {nt:Nat} (hnt:fn.ntmps = nt) {rs:List ResultVar} (hrs:fn.results.toList = rs)
  (hl:args.isList = true) (hlen:args.len≤nt)
  (h:∀ w0 I0 F0,F0.length = Y.length→(∀ b,I0 b→b < w0.heap.size)→VC ⟨P,nt,w0,I0,F0⟩ body (retK τ rs R) ⟨envOf 0 args,Y,[],[]⟩):Meets P f Y args R:=by
 refine ⟨⟨fn,hf,by rw [hb];rfl,hname⟩,fun w I F0 vs hY hH hnd hap hlt hil hx=>?_⟩
 subst hnt
 subst hrs
 have hvl:=Rl.list_len hl hx
 refine callsIn_wide.1 (callsIn_of_wp_marks (F:=Fence.wide) (n:=0) hf hb trivial (wpIn_wide.2 ?_))
 have hrel:Rel ⟨P,fn.ntmps,w,I,F0⟩ ⟨envOf 0 args,Y,[],[]⟩ { tmps:=vs.toArray ++ Array.replicate (fn.ntmps - vs.toArray.size) undef,defers:=[] } w:=by
  refine ⟨Dfs.none _ _,by simp;omega,I,F0,⟨hY,hH,hnd,hap,hlt,hil,rfl,rfl,rfl,Nat.le_refl _,fun _ _ _=>rfl,fun b hb _=>hb,fun _ h=>h,fun _ h=>.inl h,
   fun k g0 hg=>⟨g0,hg,rfl,fun _ _=>rfl,fun _ _=>rfl,fun _ _ h _=>h⟩⟩,fun t=>?_,fun k q av hm=>by cases hm⟩
  rcases Nat.lt_or_ge t vs.length with htl | htl
  ·refine envOf_ok 0 t hl hx _ (fun _=>?_) (fun h=>by omega)
   rw [List.getElem?_eq_getElem (by omega)]
   simp only [Array.getD_eq_getD_getElem?]
   rw [Array.getElem?_append_left (by simpa using htl)]
   simp [htl]
  ·rw [envOf_bad 0 t hl (by omega)];exact ⟨_,rfl⟩
 have hend:∀ (st:St) a w',(resVc τ st fn.results.toList fun s=>R (retOf s) st.X st.κ)→Rel ⟨P,fn.ntmps,w,I,F0⟩ st a w' →
   LeavesInM Fence.wide 0 P fn a.tmps (fun e w'=>∃ v' av X κ I' F',e = .returned v'∧R av X κ∧Inv ⟨P,0,w,I,F0⟩ X κ w' I' F'∧Rl w'.heap I' F' av true [v']) a.defers .returning w':=by
  intro st a w0' h1 ⟨⟨Ds,hds,hdn,hdD⟩,hs,I0',F',hi0,he0,hp0⟩
  rw [hds]
  refine leaves_marks Ds w0' hdn (fun D hD=>(hdD D hD).2) fun w' hshut=>?_
  obtain ⟨I',hi,he,hp⟩:=Rel.shut (c:=⟨P,fn.ntmps,w,I,F0⟩) hil hi0 he0 hp0 (fun D hD=>⟨(hdD D hD).1,_,(hdD D hD).2,trivial⟩) hshut
  obtain ⟨s,ws,g1,g2,g3,g4⟩:=results_ok (c:=⟨P,fn.ntmps,w,I,F0⟩) hτ hi he hp _ _ h1
  have hi':Inv ⟨P,0,w,I,F0⟩ st.X st.κ w' I' F':=⟨hi.erase,hi.holds,hi.nodup,hi.apart,hi.lt,hi.ilt,hi.os,hi.tape,hi.output,hi.size,hi.frame,hi.fresh,hi.imono,hi.inew,hi.base⟩
  have hm:(fn.results.mapM (resOf a.tmps)).run P w' = .ok ws.toArray w':=by
   rw [←Array.toArray_toList (xs:=fn.results),Array.mapM_eq_mapM_toList]
   simp only [Sem.run_map]
   rw [g4];rfl
  have hres:∃ v,(results fn a.tmps).run P w' = .ok v w'∧Rl w'.heap I' F' (retOf s) true [v]:=by
   rw [results_eq]
   simp only [Sem.run_bind,hm,Result.andThen_ok,Sem.run_pure]
   refine ⟨_,rfl,?_⟩
   cases s with
   | nil=>cases g2;exact ⟨[],rfl,rfl⟩
   | cons x r =>
    obtain ⟨v,vs',e,k1,k2⟩:=id g2
    subst e
    cases r with
    | nil=>cases k2;simpa [retOf] using k1
    | cons y r =>
     obtain ⟨v2,vs2,e2,_,_⟩:=id k2
     subst e2
     simp only [retOf]
     exact ⟨v :: v2 :: vs2,by simp,g2⟩
    | _=>cases g3
   | _=>cases g3
  obtain ⟨v,g5,g6⟩:=hres
  exact ⟨v,g5,v,_,_,_,I',F',rfl,g1,hi',g6⟩
 refine wp_mono (h w I F0 (by rw [←hY];simp) hil _ w hrel) fun e a w' ⟨st,h1,h2⟩=>?_
 cases e with
 | normal=>exact hend st a w' h1 h2
 | ret=>exact hend st a w' h1 h2
 | _=>exact h1.elim
theorem Meets.of_vc {P:Program} {τ:Tab} (hτ:Tab.Ok P τ) {f:FuncId} {fn:Func} {body:Code} {Y:List D} {args:AV} {R:AV→List D→List (Nat×Path)→Prop}
  (hf:P.funcs[f]? = some fn) (hb:fn.body = some body) (hname:(fn.name == "runtime.NumGoroutine") = false) {nt:Nat} (hnt:fn.ntmps = nt) {rs:List ResultVar} (hrs:fn.results.toList = rs)
  (hl:args.isList = true) (hlen:args.len≤nt)
  (h:∀ w0 I0 F0,F0.length = Y.length→VC ⟨P,nt,w0,I0,F0⟩ body (retK τ rs R) ⟨envOf 0 args,Y,[],[]⟩):Meets P f Y args R :=
 Meets.of_vcI hτ hf hb hname hnt hrs hl hlen fun w0 I0 F0 hF _=>h w0 I0 F0 hF
end Go.Vc

/- Sequences as lists. -/
namespace Go.Vc
set_option linter.all false
def sq {α:Type}:List (T α)→T α
 | []=>.nil
 | a :: l=>.cons a (sq l)
section
variable {α:Type}
theorem sq_nil:sq ([]:List (T α)) = .nil:=rfl
theorem sq_len (l:List (T α)):(sq l).len = l.length:=by induction l with
 | nil=>rfl
 | cons a l ih=>simp [sq,T.len,ih]
theorem sq_nth (l:List (T α)) (i:Nat):(sq l).nth i = l.getD i .nil:=by
 induction l generalizing i with
 | nil=>simp [sq,T.nth]
 | cons a l ih=>cases i <;> simp [sq,T.nth,ih]
theorem sq_nth_lt {l:List (T α)} {i:Nat} (h:i < l.length):(sq l).nth i = l[i]:=by rw [sq_nth];simp [h]
theorem sq_setN (l:List (T α)) (i:Nat) (x:T α):(sq l).setN i x = sq (l.set i x):=by
 induction l generalizing i with
 | nil=>simp [sq,T.setN]
 | cons a l ih=>cases i <;> simp [sq,T.setN,ih]
theorem sq_app (l m:List (T α)):(sq l).app (sq m) = sq (l ++ m):=by
 induction l with
 | nil=>cases m <;> simp [sq,T.app]
 | cons a l ih=>simp [sq,T.app,ih]
theorem sq_app1 (l:List (T α)) (x:T α):(sq l).app (.cons x .nil) = sq (l ++ [x]):=sq_app l [x]
theorem sq_drop (l:List (T α)) (k:Nat):(sq l).drop k = sq (l.drop k):=by
 induction k generalizing l with
 | zero=>simp [T.drop]
 | succ k ih=>cases l <;> simp [sq,T.drop,ih]
theorem sq_take (l:List (T α)) (k:Nat):(sq l).take k = sq (l.take k):=by
 induction k generalizing l with
 | zero=>cases l <;> simp [sq,T.take]
 | succ k ih=>cases l <;> simp [sq,T.take,ih]
theorem sq_mid (l:List (T α)) (lo n:Nat):(sq l).mid lo n = sq ((l.drop lo).take n):=by rw [T.mid,sq_drop,sq_take]
theorem sq_mid_all (l:List (T α)) (n:Nat) (h:l.length≤n):(sq l).mid 0 n = sq l:=by rw [sq_mid,List.drop_zero,List.take_of_length_le h]
theorem sq_free {l:List (T α)} (h:∀ x∈l,x.free = true):(sq l).free = true:=by induction l with
 | nil=>rfl
 | cons a l ih=>simp only [sq,T.free,Bool.and_eq_true];exact ⟨h a List.mem_cons_self,ih fun x hx=>h x (List.mem_cons_of_mem _ hx)⟩
end
def dInt (n:Int):D:=.val (.int .i64 n)
def dStr (s:ByteArray):D:=.val (.string s)
def dInts (l:List Int):D:=sq (l.map dInt)
def dStrs (l:List ByteArray):D:=sq (l.map dStr)
theorem dInts_free (l:List Int):(dInts l).free = true:=sq_free fun x hx=>by obtain ⟨n,_,rfl⟩:=List.mem_map.1 hx;rfl
theorem dStrs_free (l:List ByteArray):(dStrs l).free = true:=sq_free fun x hx=>by obtain ⟨n,_,rfl⟩:=List.mem_map.1 hx;rfl
theorem dInts_len (l:List Int):(dInts l).len = l.length:=by simp [dInts,sq_len]
theorem dStrs_len (l:List ByteArray):(dStrs l).len = l.length:=by simp [dStrs,sq_len]
theorem dInts_nth {l:List Int} {i:Nat} (h:i < l.length):(dInts l).nth i = .val (.int .i64 l[i]):=by rw [dInts,sq_nth_lt (by simpa using h)];simp [dInt]
@[simp] theorem dInts_mid (l:List Int):(dInts l).mid 0 l.length = dInts l:=sq_mid_all _ _ (by simp)
@[simp] theorem dStrs_mid (l:List ByteArray):(dStrs l).mid 0 l.length = dStrs l:=sq_mid_all _ _ (by simp)
@[simp] theorem mid_zero {α:Type} (s:T α) (lo:Nat):s.mid lo 0 = .nil:=by
 unfold T.mid
 cases s.drop lo <;> rfl
attribute [simp] dInts_free dStrs_free dInts_len dStrs_len
@[simp] theorem dInts_app (l m:List Int):(dInts l).app (dInts m) = dInts (l ++ m):=by simp [dInts,sq_app]
@[simp] theorem dStrs_app (l m:List ByteArray):(dStrs l).app (dStrs m) = dStrs (l ++ m):=by simp [dStrs,sq_app]
@[simp] theorem dInts_app1 (l:List Int) (n:Int):(dInts l).app (.cons (.val (.int .i64 n)) .nil) = dInts (l ++ [n]):=by
 simp only [dInts,List.map_append,←sq_app];rfl
@[simp] theorem dStrs_app1 (l:List ByteArray) (n:ByteArray):(dStrs l).app (.cons (.val (.string n)) .nil) = dStrs (l ++ [n]):=by
 simp only [dStrs,List.map_append,←sq_app];rfl
theorem dInts_nil:dInts [] = .nil:=rfl
@[simp] theorem dInts_setN (l:List Int) (i:Nat) (n:Int):(dInts l).setN i (.val (.int .i64 n)) = dInts (l.set i n):=by
 simp only [dInts,sq_setN,List.map_set];rfl
@[simp] theorem dStrs_setN (l:List ByteArray) (i:Nat) (n:ByteArray):(dStrs l).setN i (.val (.string n)) = dStrs (l.set i n):=by
 simp only [dStrs,sq_setN,List.map_set];rfl
end Go.Vc

/- Which rules 'simp' bears. -/
namespace Go.Vc
set_option linter.all false
@[simp] theorem nat_ble (n m:Nat):Nat.ble n m = decide (n≤m):=by rw [Bool.eq_iff_iff];simp
@[simp] theorem nat_blt (n m:Nat):Nat.blt n m = decide (n < m):=by rw [Bool.eq_iff_iff];simp [Nat.blt,Nat.succ_le_iff]
@[simp] theorem nat_beq (n m:Nat):Nat.beq n m = decide (n = m):=by rw [Bool.eq_iff_iff];simp
@[simp] theorem fits_eq (n m b:Nat):fits n m b = ((n + m) * b≤140737488355328∧n + m≤2 ^ 63 - 1):=rfl
theorem r_lay_sub {nb k lo n:Nat} {q:Path} {ex:Bool} {X:List D}:AV.lay nb (.sub k q lo n ex) X = match emptySub X k q n ex with
  | some z=>⟨.sl true () z .nil,X,[],[]⟩
  | none=>match q,X[k]? with
   | [],some (.sl true () z s)=>bif Nat.ble nb k then ⟨.sl true () z (s.mid lo n),X.set k (.junk ()),[(k,[])],[]⟩ else ⟨.junk (),X,[],[([],.sub k [] lo n ex)]⟩
   | q,_=>⟨.junk (),X,[],[([],.sub k q lo n ex)]⟩:=by rw [AV.lay.eq_def];rfl
theorem r_lay_ptr {nb k:Nat} {q:Path} {X:List D}:AV.lay nb (.ptr k q) X = match q,X[k]? with
  | [.d],some (.box true () g)=>bif Nat.ble nb k then ⟨.box true () g,X.set k (.junk ()),[(k,[])],[]⟩ else ⟨.junk (),X,[],[([],.ptr k [.d])]⟩
  | q,_=>⟨.junk (),X,[],[([],.ptr k q)]⟩:=by rw [AV.lay.eq_def];rfl
theorem r_lay_mp {nb k:Nat} {q:Path} {X:List D}:AV.lay nb (.mp k q) X = match q,X[k]? with
  | [],some (.map true () s)=>bif Nat.ble nb k then ⟨.map true () s,X.set k (.junk ()),[(k,[])],[]⟩ else ⟨.junk (),X,[],[([],.mp k [])]⟩
  | q,_=>⟨.junk (),X,[],[([],.mp k q)]⟩:=by rw [AV.lay.eq_def];rfl
attribute [simp] r_lay_sub r_lay_ptr r_lay_mp
set_option linter.defProp false
def r_vc_nil:=@vc_nil
def r_vc_cons:=@vc_cons
def r_vc_guard:=@vc_guard
def r_put_eq:=@put_eq
def r_op_load:=@op_load
def r_op_store:=@op_store
def r_op_alloc:=@op_alloc
def r_op_box:=@op_box
def r_op_row:=@op_row
def r_op_build:=@op_build
def r_op_slice:=@op_slice
def r_op_append:=@op_append
def r_op_len:=@op_len
def r_op_call:=@op_call
def r_op_bin:=@op_bin
def r_op_move:=@op_move
def r_op_assign:=@op_assign
def r_op_pick:=@op_pick
def r_op_nilCheck:=@op_nilCheck
def r_op_unOp:=@op_unOp
def r_op_convert:=@op_convert
def r_op_fieldAddr:=@op_fieldAddr
def r_op_indexAddr:=@op_indexAddr
def r_op_extract:=@op_extract
def r_op_index:=@op_index
def r_pure_len:=@pure_len
def r_load_eq:=@load_eq
def r_eff_store:=@eff_store
def r_eff_alloc:=@eff_alloc
def r_eff_box:=@eff_box
def r_eff_row:=@eff_row
def r_eff_append:=@eff_append
def r_box_eq:=@box_eq
def r_row_eq:=@row_eq
def r_store_eq:=@store_eq
def r_app_eq:=@app_eq
def r_root_eq:=@root_eq
def r_split_eq:=@split_eq
def r_marked:=@marked.eq_1
def r_Env_keepS:=@Env.keepS.eq_1
def r_keepS:=@AV.keepS.eq_def
def r_same_eq:=@same_eq
def r_fresh_eq:=@fresh_eq
def r_parts_nil:=@parts_nil
def r_parts_cons:=@parts_cons
def r_build_eq:=@build_eq
def r_slice_eq:=@slice_eq
def r_cond_eq:=@cond_eq
def r_guard_eq:=@guard_eq
def r_bind_val:=@bind_val
def r_bind_bad:=@bind_bad
def r_bind_nils:=@bind_nils
def r_bind_cut:=@bind_cut
def r_bind_ptr:=@bind_ptr
def r_bind_sub:=@bind_sub
def r_bind_mp:=@bind_mp
def r_bind_imm:=@bind_imm
def r_bind_iptr:=@bind_iptr
def r_bind_nil:=@bind_nil
def r_bind_cons:=@bind_cons
def r_bind_agg:=@bind_agg
def r_bind_tup:=@bind_tup
def r_bind_fn:=@bind_fn
def r_bind_some:=@bind_some
def r_bind_none:=@bind_none
def r_bind_true:=@bind_true
def r_bind_false:=@bind_false
def r_bind_pair:=@bind_pair
def r_bind_Sc:=@bind_Sc
def r_bind_Tk:=@bind_Tk
def r_bind_St:=@bind_St
def r_bind_dval:=@bind_dval
def r_bind_djunk:=@bind_djunk
def r_bind_dnil:=@bind_dnil
def r_bind_dcons:=@bind_dcons
def r_bind_dagg:=@bind_dagg
def r_bind_dsl:=@bind_dsl
def r_bind_dbox:=@bind_dbox
def r_bind_dmap:=@bind_dmap
def r_glook_1:=@glook.eq_1
def r_glook_2:=@glook.eq_2
def r_St_put_1:=@St.put.eq_1
def r_St_put_2:=@St.put.eq_2
def r_St_ev_1:=@St.ev.eq_1
def r_St_ev_2:=@St.ev.eq_2
def r_St_ev_3:=@St.ev.eq_3
def r_St_ev_4:=@St.ev.eq_4
def r_St_evT_1:=@St.evT.eq_1
def r_St_evT_2:=@St.evT.eq_2
def r_St_evZ_1:=@St.evZ.eq_1
def r_St_evZ_2:=@St.evZ.eq_2
def r_look_1:=@look.eq_1
def r_look_2:=@look.eq_2
def r_St_tree_1:=@St.tree.eq_1
def r_Tk_tree_1:=@Tk.tree.eq_1
def r_T_at__1:=@T.at_.eq_1
def r_T_at__2:=@T.at_.eq_2
def r_T_at__3:=@T.at_.eq_3
def r_T_at__4:=@T.at_.eq_4
def r_T_at__5:=@T.at_.eq_5
def r_T_at__6:=@T.at_.eq_6
def r_T_nth_1:=@T.nth.eq_1
def r_T_nth_2:=@T.nth.eq_2
def r_T_nth_3:=@T.nth.eq_3
def r_T_len_1:=@T.len.eq_1
def r_T_len_2:=@T.len.eq_2
def r_T_offs_1:=@T.offs.eq_1
def r_T_offs_2:=@T.offs.eq_2
def r_T_width_1:=@T.width.eq_1
def r_T_width_2:=@T.width.eq_2
def r_T_width_3:=@T.width.eq_3
def r_T_width_4:=@T.width.eq_4
def r_T_width_5:=@T.width.eq_5
def r_T_width_6:=@T.width.eq_6
def r_T_width_7:=@T.width.eq_7
def r_T_width_8:=@T.width.eq_8
def r_T_set_1:=@T.set.eq_1
def r_T_set_2:=@T.set.eq_2
def r_T_set_3:=@T.set.eq_3
def r_T_set_4:=@T.set.eq_4
def r_T_set_5:=@T.set.eq_5
def r_T_set_6:=@T.set.eq_6
def r_T_setN_1:=@T.setN.eq_1
def r_T_setN_2:=@T.setN.eq_2
def r_T_setN_3:=@T.setN.eq_3
def r_T_okp_1:=@T.okp.eq_1
def r_T_okp_2:=@T.okp.eq_2
def r_T_okp_3:=@T.okp.eq_3
def r_T_okp_4:=@T.okp.eq_4
def r_T_okp_5:=@T.okp.eq_5
def r_T_okp_6:=@T.okp.eq_6
def r_T_noEntry_1:=@T.noEntry.eq_1
def r_T_noEntry_2:=@T.noEntry.eq_2
def r_T_noEntry_3:=@T.noEntry.eq_3
def r_T_noEntry_4:=@T.noEntry.eq_4
def r_T_noEntry_5:=@T.noEntry.eq_5
def r_T_noEntry_6:=@T.noEntry.eq_6
def r_T_esz_1:=@T.esz.eq_1
def r_T_esz_2:=@T.esz.eq_2
def r_T_free_1:=@T.free.eq_1
def r_T_free_2:=@T.free.eq_2
def r_T_free_3:=@T.free.eq_3
def r_T_free_4:=@T.free.eq_4
def r_T_free_5:=@T.free.eq_5
def r_T_free_6:=@T.free.eq_6
def r_T_uni_1:=@T.uni.eq_1
def r_T_uni_2:=@T.uni.eq_2
def r_T_uni_3:=@T.uni.eq_3
def r_T_app_1:=@T.app.eq_1
def r_T_app_2:=@T.app.eq_2
def r_ldOk_1:=@ldOk.eq_1
def r_ldOk_2:=@ldOk.eq_2
def r_ldOk_3:=@ldOk.eq_3
def r_ldOk_4:=@ldOk.eq_4
def r_okRow_1:=@okRow.eq_1
def r_okRow_2:=@okRow.eq_2
def r_okRow_3:=@okRow.eq_3
def r_okRow_4:=@okRow.eq_4
def r_okRow_5:=@okRow.eq_5
def r_okRow_6:=@okRow.eq_6
def r_okRow_7:=@okRow.eq_7
def r_AV_ofD_1:=@AV.ofD.eq_1
def r_AV_ofD_2:=@AV.ofD.eq_2
def r_AV_ofD_3:=@AV.ofD.eq_3
def r_AV_ofD_4:=@AV.ofD.eq_4
def r_AV_ofD_5:=@AV.ofD.eq_5
def r_AV_ofD_6:=@AV.ofD.eq_6
def r_AV_ofD_7:=@AV.ofD.eq_7
def r_AV_ofD_8:=@AV.ofD.eq_8
def r_AV_ofD_9:=@AV.ofD.eq_9
def r_AV_ofD_10:=@AV.ofD.eq_10
def r_AV_ofI_1:=@AV.ofI.eq_1
def r_AV_ofI_2:=@AV.ofI.eq_2
def r_AV_ofI_3:=@AV.ofI.eq_3
def r_AV_ofI_4:=@AV.ofI.eq_4
def r_AV_ofI_5:=@AV.ofI.eq_5
def r_AV_ofI_6:=@AV.ofI.eq_6
def r_AV_ofI_7:=@AV.ofI.eq_7
def r_AV_ofI_8:=@AV.ofI.eq_8
def r_plLook_1:=@plLook.eq_1
def r_plLook_2:=@plLook.eq_2
def r_AV_isOne_1:=@AV.isOne.eq_1
def r_AV_isOne_2:=@AV.isOne.eq_2
def r_AV_isOne_3:=@AV.isOne.eq_3
def r_AV_isOne_4:=@AV.isOne.eq_4
def r_AV_isOne_5:=@AV.isOne.eq_5
def r_AV_isOne_6:=@AV.isOne.eq_6
def r_AV_isOne_7:=@AV.isOne.eq_7
def r_AV_isOne_8:=@AV.isOne.eq_8
def r_AV_isOne_9:=@AV.isOne.eq_9
def r_fieldVc_1:=@fieldVc.eq_1
def r_arrVc_1:=@arrVc.eq_1
def r_arrVc_2:=@arrVc.eq_2
def r_fieldVc_2:=@fieldVc.eq_2
def r_binVc_1:=@binVc.eq_1
def r_binVc_2:=@binVc.eq_2
def r_binVc_3:=@binVc.eq_3
def r_binVc_4:=@binVc.eq_4
def r_binVc_5:=@binVc.eq_5
def r_binVc_6:=@binVc.eq_6
def r_binVc_7:=@binVc.eq_7
def r_binVc_8:=@binVc.eq_8
def r_binVc_9:=@binVc.eq_9
def r_binVc_10:=@binVc.eq_10
def r_binVc_11:=@binVc.eq_11
def r_binVc_12:=@binVc.eq_12
def r_intVc_1:=@intVc.eq_1
def r_intVc_2:=@intVc.eq_2
def r_intVc_3:=@intVc.eq_3
def r_intVc_4:=@intVc.eq_4
def r_intVc_5:=@intVc.eq_5
def r_intVc_6:=@intVc.eq_6
def r_intVc_7:=@intVc.eq_7
def r_intVc_8:=@intVc.eq_8
def r_intVc_9:=@intVc.eq_9
def r_intVc_10:=@intVc.eq_10
def r_intVc_11:=@intVc.eq_11
def r_intVc_12:=@intVc.eq_12
def r_intVc_13:=@intVc.eq_13
def r_intVc_14:=@intVc.eq_14
def r_strVc_1:=@strVc.eq_1
def r_strVc_2:=@strVc.eq_2
def r_strVc_3:=@strVc.eq_3
def r_strVc_4:=@strVc.eq_4
def r_strVc_5:=@strVc.eq_5
def r_strVc_6:=@strVc.eq_6
def r_strVc_7:=@strVc.eq_7
def r_strVc_8:=@strVc.eq_8
def r_eqVc_1:=@eqVc.eq_1
def r_eqVc_2:=@eqVc.eq_2
def r_eqVc_3:=@eqVc.eq_3
def r_BoolK_1:=@BoolK.eq_1
def r_thenK_1:=@thenK.eq_1
def r_thenK_2:=@thenK.eq_2
def r_retK_1:=@retK.eq_1
def r_retK_2:=@retK.eq_2
def r_retK_3:=@retK.eq_3
def r_resVc_1:=@resVc.eq_1
def r_resVc_2:=@resVc.eq_2
def r_resVc_3:=@resVc.eq_3
def r_retOf_1:=@retOf.eq_1
def r_retOf_2:=@retOf.eq_2
def r_envOf_1:=@envOf.eq_1
def r_envOf_2:=@envOf.eq_2
def r_emptySub_1:=@emptySub.eq_1
def r_emptySub_2:=@emptySub.eq_2
def r_layZ_1:=@layZ.eq_1
def r_AV_lay_1:=@AV.lay.eq_1
def r_AV_lay_2:=@AV.lay.eq_2
def r_AV_lay_3:=@AV.lay.eq_3
def r_AV_lay_4:=@AV.lay.eq_4
def r_AV_lay_11:=@AV.lay.eq_11
def r_AV_lay_12:=@AV.lay.eq_12
def r_AV_lay_13:=@AV.lay.eq_13
def r_AV_lay_14:=@AV.lay.eq_14
def r_AV_lay_15:=@AV.lay.eq_15
def r_AV_lay_16:=@AV.lay.eq_16
def r_AV_isSeq_1:=@AV.isSeq.eq_1
def r_AV_isSeq_2:=@AV.isSeq.eq_2
def r_AV_isSeq_3:=@AV.isSeq.eq_3
def r_isSeq_1:=@isSeq.eq_1
def r_isSeq_2:=@isSeq.eq_2
def r_isSeq_3:=@isSeq.eq_3
def r_AV_isCell_1:=@AV.isCell.eq_1
def r_AV_isCell_2:=@AV.isCell.eq_2
def r_AV_isCell_3:=@AV.isCell.eq_3
def r_AV_isCell_4:=@AV.isCell.eq_4
def r_AV_isCell_5:=@AV.isCell.eq_5
def r_St_moved_1:=@St.moved.eq_1
def r_St_push_1:=@St.push.eq_1
def r_toI_1:=@toI.eq_1
def r_toI_2:=@toI.eq_2
def r_St_stored_1:=@St.stored.eq_1
def r_killOf_1:=@killOf.eq_1
def r_killOf_2:=@killOf.eq_2
def r_Env_kill_1:=@Env.kill.eq_1
def r_AV_kill_1:=@AV.kill.eq_1
def r_AV_rip_1:=@AV.rip.eq_1
def r_AV_rip_2:=@AV.rip.eq_2
def r_AV_rip_3:=@AV.rip.eq_3
def r_AV_rip_4:=@AV.rip.eq_4
def r_AV_rip_5:=@AV.rip.eq_5
def r_AV_rip_6:=@AV.rip.eq_6
def r_AV_rip_7:=@AV.rip.eq_7
def r_AV_dies_1:=@AV.dies.eq_1
def r_AV_dies_2:=@AV.dies.eq_2
def r_AV_dies_3:=@AV.dies.eq_3
def r_AV_dies_4:=@AV.dies.eq_4
def r_AV_dies_5:=@AV.dies.eq_5
def r_AV_dies_6:=@AV.dies.eq_6
def r_AV_dies_7:=@AV.dies.eq_7
def r_AV_dies_8:=@AV.dies.eq_8
def r_dead_1:=@dead.eq_1
def r_mpre_1:=@mpre.eq_1
def r_mpre_2:=@mpre.eq_2
def r_mpre_3:=@mpre.eq_3
def r_mpre_4:=@mpre.eq_4
def r_mpre_5:=@mpre.eq_5
def r_plKill_1:=@plKill.eq_1
def r_AV_ofZ_1:=@AV.ofZ.eq_1
def r_AV_ofZ_2:=@AV.ofZ.eq_2
def r_AV_ofZ_3:=@AV.ofZ.eq_3
def r_AV_ofZ_4:=@AV.ofZ.eq_4
def r_AV_ofZ_5:=@AV.ofZ.eq_5
def r_AV_ofZ_6:=@AV.ofZ.eq_6
def r_AV_width_1:=@AV.width.eq_1
def r_AV_width_2:=@AV.width.eq_2
def r_AV_width_3:=@AV.width.eq_3
def r_AV_width_4:=@AV.width.eq_4
def r_AV_nth_1:=@AV.nth.eq_1
def r_AV_nth_2:=@AV.nth.eq_2
def r_AV_nth_3:=@AV.nth.eq_3
def r_AV_len_1:=@AV.len.eq_1
def r_AV_len_2:=@AV.len.eq_2
def r_AV_offs_1:=@AV.offs.eq_1
def r_AV_offs_2:=@AV.offs.eq_2
def r_AV_ofList_1:=@AV.ofList.eq_1
def r_AV_ofList_2:=@AV.ofList.eq_2
def r_AV_setN_1:=@AV.setN.eq_1
def r_AV_setN_2:=@AV.setN.eq_2
def r_AV_setN_3:=@AV.setN.eq_3
def r_AV_app_1:=@AV.app.eq_1
def r_AV_app_2:=@AV.app.eq_2
def r_AV_src_1:=@AV.src.eq_1
def r_AV_src_2:=@AV.src.eq_2
def r_AV_src_3:=@AV.src.eq_3
def r_AV_src_4:=@AV.src.eq_4
def r_AV_tight_1:=@AV.tight.eq_1
def r_AV_tight_2:=@AV.tight.eq_2
def r_AV_tight_3:=@AV.tight.eq_3
def r_AV_tight_4:=@AV.tight.eq_4
def r_argsOf_1:=@argsOf.eq_1
def r_argsOf_2:=@argsOf.eq_2
def r_argsOf_3:=@argsOf.eq_3
def r_boundVc_1:=@boundVc.eq_1
def r_boundVc_2:=@boundVc.eq_2
def r_boundVc_3:=@boundVc.eq_3
def r_blockK_1:=@blockK.eq_1
def r_blockK_2:=@blockK.eq_2
def r_bump_1:=@bump.eq_1
def r_bump_2:=@bump.eq_2
def r_Value_oneCellq_1:=@Go.Value.oneCell'.eq_1
def r_Value_oneCellq_2:=@Go.Value.oneCell'.eq_2
def r_Value_oneCellq_3:=@Go.Value.oneCell'.eq_3
attribute [simp] r_vc_nil r_vc_cons r_vc_guard r_put_eq r_op_load r_op_store r_op_alloc r_op_box r_op_row r_op_build r_op_slice r_op_append r_op_len
attribute [simp] r_op_call r_op_bin r_op_move r_op_assign r_op_pick r_op_nilCheck r_op_unOp r_op_convert r_op_fieldAddr r_op_indexAddr r_op_index r_op_extract
attribute [simp] r_pure_len r_load_eq r_eff_store r_eff_alloc r_eff_box r_eff_row r_eff_append r_box_eq r_row_eq r_store_eq r_app_eq r_root_eq r_split_eq r_marked r_Env_keepS r_keepS
attribute [simp] r_same_eq r_fresh_eq r_parts_nil r_parts_cons r_build_eq r_slice_eq r_cond_eq r_guard_eq r_bind_val r_bind_bad r_bind_nils r_bind_cut r_bind_ptr
attribute [simp] r_bind_sub r_bind_mp r_bind_imm r_bind_iptr r_bind_nil r_bind_cons r_bind_agg r_bind_tup r_bind_fn r_bind_some r_bind_none r_bind_true
attribute [simp] r_bind_false r_bind_pair r_bind_Sc r_bind_Tk r_bind_St r_bind_dval r_bind_djunk r_bind_dnil r_bind_dcons r_bind_dagg r_bind_dsl
attribute [simp] r_bind_dbox r_bind_dmap r_glook_1 r_glook_2 r_St_put_1 r_St_put_2 r_St_ev_1 r_St_ev_2 r_St_ev_3 r_St_ev_4 r_St_evT_1 r_St_evT_2
attribute [simp] r_St_evZ_1 r_St_evZ_2 r_look_1 r_look_2 r_St_tree_1 r_Tk_tree_1 r_T_at__1 r_T_at__2 r_T_at__3 r_T_at__4 r_T_at__5 r_T_at__6 r_T_nth_1
attribute [simp] r_T_nth_2 r_T_nth_3 r_T_len_1 r_T_len_2 r_T_offs_1 r_T_offs_2 r_T_width_1 r_T_width_2 r_T_width_3 r_T_width_4 r_T_width_5 r_T_width_6
attribute [simp] r_T_width_7 r_T_width_8 r_T_set_1 r_T_set_2 r_T_set_3 r_T_set_4 r_T_set_5 r_T_set_6 r_T_setN_1 r_T_setN_2 r_T_setN_3 r_T_okp_1
attribute [simp] r_T_okp_2 r_T_okp_3 r_T_okp_4 r_T_okp_5 r_T_okp_6 r_T_noEntry_1 r_T_noEntry_2 r_T_noEntry_3 r_T_noEntry_4 r_T_noEntry_5 r_T_noEntry_6
attribute [simp] r_T_esz_1 r_T_esz_2 r_T_free_1 r_T_free_2 r_T_free_3 r_T_free_4 r_T_free_5 r_T_free_6 r_T_uni_1 r_T_uni_2 r_T_uni_3 r_T_app_1
attribute [simp] r_T_app_2 r_ldOk_1 r_ldOk_2 r_ldOk_3 r_ldOk_4 r_okRow_1 r_okRow_2 r_okRow_3 r_okRow_4 r_okRow_5 r_okRow_6 r_okRow_7 r_AV_ofD_1
attribute [simp] r_AV_ofD_2 r_AV_ofD_3 r_AV_ofD_4 r_AV_ofD_5 r_AV_ofD_6 r_AV_ofD_7 r_AV_ofD_8 r_AV_ofD_9 r_AV_ofD_10 r_AV_ofI_1 r_AV_ofI_2 r_AV_ofI_3
attribute [simp] r_AV_ofI_4 r_AV_ofI_5 r_AV_ofI_6 r_AV_ofI_7 r_AV_ofI_8 r_plLook_1 r_plLook_2 r_AV_isOne_1 r_AV_isOne_2 r_AV_isOne_3 r_AV_isOne_4
attribute [simp] r_AV_isOne_5 r_AV_isOne_6 r_AV_isOne_7 r_AV_isOne_8 r_AV_isOne_9 r_fieldVc_1 r_fieldVc_2 r_arrVc_1 r_arrVc_2 r_binVc_1 r_binVc_2 r_binVc_3 r_binVc_4
attribute [simp] r_binVc_5 r_binVc_6 r_binVc_7 r_binVc_8 r_binVc_9 r_binVc_10 r_binVc_11 r_binVc_12 r_intVc_1 r_intVc_2 r_intVc_3 r_intVc_4 r_intVc_5 r_intVc_6 r_intVc_7
attribute [simp] r_intVc_8 r_intVc_9 r_intVc_10 r_intVc_11 r_intVc_12 r_intVc_13 r_intVc_14 r_strVc_1 r_strVc_2 r_strVc_3 r_strVc_4 r_strVc_5 r_strVc_6 r_strVc_7
attribute [simp] r_strVc_8 r_eqVc_1 r_eqVc_2 r_eqVc_3 r_BoolK_1 r_thenK_1 r_thenK_2 r_retK_1 r_retK_2 r_retK_3 r_resVc_1 r_resVc_2 r_resVc_3 r_retOf_1
attribute [simp] r_retOf_2 r_envOf_1 r_envOf_2 r_emptySub_1 r_emptySub_2 r_layZ_1 r_AV_lay_1 r_AV_lay_2 r_AV_lay_3 r_AV_lay_4
attribute [simp] r_AV_lay_11 r_AV_lay_12 r_AV_lay_13 r_AV_lay_14 r_AV_lay_15 r_AV_lay_16 r_AV_isSeq_1
attribute [simp] r_AV_isSeq_2 r_AV_isSeq_3 r_isSeq_1 r_isSeq_2 r_isSeq_3 r_AV_isCell_1 r_AV_isCell_2 r_AV_isCell_3 r_AV_isCell_4 r_AV_isCell_5
attribute [simp] r_St_moved_1 r_St_push_1 r_toI_1 r_toI_2 r_St_stored_1 r_killOf_1 r_killOf_2 r_Env_kill_1 r_AV_kill_1 r_AV_rip_1 r_AV_rip_2 r_AV_rip_3 r_AV_rip_4 r_AV_rip_5 r_AV_rip_6 r_AV_rip_7 r_AV_dies_1 r_AV_dies_2
attribute [simp] r_AV_dies_3 r_AV_dies_4 r_AV_dies_5 r_AV_dies_6 r_AV_dies_7 r_AV_dies_8 r_dead_1 r_mpre_1 r_mpre_2 r_mpre_3 r_mpre_4 r_mpre_5
attribute [simp] r_plKill_1 r_AV_ofZ_1 r_AV_ofZ_2 r_AV_ofZ_3 r_AV_ofZ_4 r_AV_ofZ_5 r_AV_ofZ_6 r_AV_width_1 r_AV_width_2 r_AV_width_3 r_AV_width_4
attribute [simp] r_AV_nth_1 r_AV_nth_2 r_AV_nth_3 r_AV_len_1 r_AV_len_2 r_AV_offs_1 r_AV_offs_2 r_AV_ofList_1 r_AV_ofList_2 r_AV_setN_1 r_AV_setN_2
attribute [simp] r_AV_setN_3 r_AV_app_1 r_AV_app_2 r_AV_src_1 r_AV_src_2 r_AV_src_3 r_AV_src_4 r_AV_tight_1 r_AV_tight_2 r_AV_tight_3 r_AV_tight_4
attribute [simp] r_argsOf_1 r_argsOf_2 r_argsOf_3 r_boundVc_1 r_boundVc_2 r_boundVc_3 r_blockK_1 r_blockK_2 r_bump_1 r_bump_2 sq_len sq_setN sq_app
attribute [simp] sq_app1 sq_nil r_Value_oneCellq_1 r_Value_oneCellq_2 r_Value_oneCellq_3
end Go.Vc

/- Choosing what to keep of a state: some slots, some roots. -/
namespace Go.Vc
set_option linter.all false
open T (hdr blk)
def posOf:List Nat→Nat→Option Nat
 | [],_=>none
 | x :: l,k=>if x = k then some 0 else (posOf l k).map (· + 1)
def AV.ren (sel:List Nat):AV→AV
 | .ptr k q=>match posOf sel k with
  | some j=>.ptr j q
  | none=>.bad
 | .sub k q lo n ex=>match posOf sel k with
  | some j=>.sub j q lo n ex
  | none=>.bad
 | .mp k q=>match posOf sel k with
  | some j=>.mp j q
  | none=>.bad
 | .cons a t=>.cons (a.ren sel) (t.ren sel)
 | .agg s=>.agg (s.ren sel)
 | .tup s=>.tup (s.ren sel)
 | .fn f s=>.fn f (s.ren sel)
 | a=>a
def AV.whole (sel:List Nat):AV→Bool
 | .ptr k _=>(posOf sel k).isSome
 | .sub k _ _ _ _=>(posOf sel k).isSome
 | .mp k _=>(posOf sel k).isSome
 | .cons a t=>a.whole sel && t.whole sel
 | .agg s=>s.whole sel
 | .tup s=>s.whole sel
 | .fn _ s=>s.whole sel
 | _=>true
def AV.renW (sel:List Nat) (a:AV):AV:=bif a.whole sel then a.ren sel else .bad
def St.pick (st:St) (ts:List Tmp) (sel:List Nat):St where
 env:=ts.map fun t=>(t,(look st.env t).renW sel)
 X:=sel.map fun k=>st.X.getD k .nil
 κ:=st.κ
 pl:=(st.pl.filter fun e=>(posOf sel e.1).isSome && e.2.2.whole sel).map fun e=>((posOf sel e.1).getD 0,e.2.1,e.2.2.ren sel)
theorem posOf_get {sel:List Nat} {k j:Nat} (h:posOf sel k = some j):sel[j]? = some k:=by
 induction sel generalizing j with
 | nil=>cases h
 | cons x l ih =>
  simp only [posOf] at h
  split at h
  ·rename_i e;cases h;simp [e]
  ·cases hp:posOf l k with
   | none=>rw [hp] at h;cases h
   | some i=>rw [hp] at h;cases h;simpa using ih hp
theorem ren_rl {h:Array Obj} {I:Nat→Prop} {F F':List G} {sel:List Nat} (hF:∀ (j k:Nat),sel[j]? = some k→F'[j]? = F[k]?) (av:AV) :
  ∀ {m:Bool} {vs:List Value},av.whole sel = true→Rl h I F av m vs→Rl h I F' (av.ren sel) m vs:=by
 induction av with
 | ptr k q =>
  intro m vs hw H
  obtain ⟨j,hj⟩:=Option.isSome_iff_exists.1 hw
  have:=hF j k (posOf_get hj)
  simp only [AV.ren,hj]
  cases m <;> (obtain ⟨b,o,h1,h2⟩:=H;exact ⟨b,o,by unfold locF at *;rw [this];exact h1,h2⟩)
 | sub k q lo n ex =>
  intro m vs hw H
  obtain ⟨j,hj⟩:=Option.isSome_iff_exists.1 hw
  have:=hF j k (posOf_get hj)
  simp only [AV.ren,hj]
  cases m <;> (obtain ⟨own,a,z,len,v,h1,h2⟩:=H;exact ⟨own,a,z,len,v,by unfold hdrF at *;rw [this];exact h1,h2⟩)
 | mp k q =>
  intro m vs hw H
  obtain ⟨j,hj⟩:=Option.isSome_iff_exists.1 hw
  have:=hF j k (posOf_get hj)
  simp only [AV.ren,hj]
  cases m <;> (obtain ⟨own,a,z,len,h1,h2⟩:=H;exact ⟨own,a,z,len,by unfold hdrF at *;rw [this];exact h1,h2⟩)
 | cons a t iha iht =>
  intro m vs hw H
  simp only [AV.whole,Bool.and_eq_true] at hw
  cases m <;> (obtain ⟨v1,v2,h1,h2,h3⟩:=H;exact ⟨v1,v2,h1,iha hw.1 h2,iht hw.2 h3⟩)
 | agg s ih =>
  intro m vs hw H
  cases m
  ·exact ih (m:=false) hw H
  ·obtain ⟨cs,h1,h2⟩:=H;exact ⟨cs,h1,ih hw h2⟩
 | tup s ih =>
  intro m vs hw H
  cases m
  ·exact H.elim
  ·obtain ⟨cs,h1,h2⟩:=H;exact ⟨cs,h1,ih hw h2⟩
 | fn f s ih=>intro m vs hw H;cases m <;> (obtain ⟨cs,h1,h2⟩:=H;exact ⟨cs,h1,ih hw h2⟩)
 | _=>intro m vs hw H;cases m <;> exact H
def selOk (nb n:Nat) (sel:List Nat):Bool:=sel.all (fun k=>Nat.blt k n) && decide sel.Nodup && (List.range nb).all fun i=>sel[i]? == some i
theorem rl_one {h:Array Obj} {I:Nat→Prop} {F:List G} {v:Value}:Rl h I F .bad true [v]:=⟨v,rfl⟩
theorem Rel.pick {c:Cx} {st:St} {a:Act} {w:World} (h:Rel c st a w) (ts:List Tmp) {sel:List Nat} (hs:selOk c.F0.length st.X.length sel = true):Rel c (st.pick ts sel) a w:=by
 obtain ⟨h1,h2,I,F,hi,he,hp⟩:=h
 simp only [selOk,Bool.and_eq_true,List.all_eq_true,decide_eq_true_eq,List.mem_range,beq_iff_eq] at hs
 obtain ⟨⟨s1,s2⟩,s3⟩:=hs
 have hFl:F.length = st.X.length:=by rw [←hi.erase];simp
 have s1:∀ k∈sel,k < F.length:=fun k hk=>by rw [hFl];exact Nat.le_of_ble_eq_true (s1 k hk)
 have hF:∀ (j k:Nat),sel[j]? = some k→(sel.map fun k=>F.getD k .nil)[j]? = F[k]?:=fun j k hj=>by
  have hk:=s1 k (List.mem_of_getElem? hj)
  rw [List.getElem?_map,hj]
  rw [List.getElem?_eq_getElem hk]
  simp [hk]
 have hmemF:∀ g∈sel.map (fun k=>F.getD k .nil),g∈F:=fun g hg=>by
  obtain ⟨k,hk,rfl⟩:=List.mem_map.1 hg
  have:=s1 k hk
  simp [this]
 have hcount:∀ b,(own (sel.map fun k=>F.getD k .nil)).count b≤(own F).count b:=by
  intro b
  have key:∀ (sel:List Nat) (F:List G),sel.Nodup→(∀ k∈sel,k < F.length)→(own (sel.map fun k=>F.getD k .nil)).count b≤(own F).count b:=by
   intro sel
   induction sel with
   | nil=>intro F _ _;simp [own]
   | cons k l ih =>
    intro F hn hk
    simp only [List.nodup_cons] at hn
    have hkF:=hk k List.mem_cons_self
    have hg:F[k]? = some (F[k]'hkF):=List.getElem?_eq_getElem hkF
    have h1:=own_set hg (.nil) b
    have h2:=ih (F.set k .nil) hn.2 (fun j hj=>by simpa using hk j (List.mem_cons_of_mem _ hj))
    have h3:(l.map fun j=>(F.set k .nil).getD j .nil) = l.map fun j=>F.getD j .nil:=List.map_congr_left fun j hj=>by
     have hne:k≠j:=fun e=>hn.1 (e ▸ hj)
     simp only [List.getD_eq_getElem?_getD]
     rw [List.getElem?_set_ne hne]
    rw [h3] at h2
    simp only [T.owned,List.count_nil] at h1
    have h4:(own ((k :: l).map fun j=>F.getD j .nil)).count b = (F[k]'hkF).owned.count b + (own (l.map fun j=>F.getD j .nil)).count b:=by
     simp [own,List.count_append,hkF]
    omega
  exact key sel F s2 s1
 have hmem:∀ b∈own (sel.map fun k=>F.getD k .nil),b∈own F:=fun b hb=>by have:=hcount b;rw [mem_of_count] at *;omega
 refine ⟨h1,h2,I,sel.map fun k=>F.getD k .nil,?_,?_,?_⟩
 ·refine ⟨?_,fun g hg=>hi.holds g (hmemF g hg),nodup_of_count fun b=>Nat.le_trans (hcount b) (count_le_one hi.nodup b),fun b hb=>hi.apart b (hmem b hb),fun b hb=>hi.lt b (hmem b hb),hi.ilt,hi.os,hi.tape,hi.output,hi.size,
   hi.frame,fun b hb=>hi.fresh b (hmem b hb),hi.imono,hi.inew,fun k g0 hg0=>?_⟩
  ·simp only [St.pick,←hi.erase,List.map_map]
   refine List.map_congr_left fun k _=>?_
   simp only [Function.comp_apply,List.getD_eq_getElem?_getD,List.getElem?_map]
   cases F[k]? <;> rfl
  ·obtain ⟨g,g1,g2⟩:=hi.base k g0 hg0
   have hk:k < c.F0.length:=(List.getElem?_eq_some_iff.1 hg0).1
   exact ⟨g,by rw [hF k k (s3 k hk)];exact g1,g2⟩
 ·intro t
  have key:∀ ts:List Tmp,(look (ts.map fun t=>(t,(look st.env t).renW sel)) t = .bad)∨look (ts.map fun t=>(t,(look st.env t).renW sel)) t = (look st.env t).renW sel:=by
   intro ts
   induction ts with
   | nil=>exact .inl rfl
   | cons x ts ih =>
    simp only [List.map_cons,look]
    split
    ·rename_i e;subst e;exact .inr rfl
    ·exact ih
  rcases key ts with h' | h'
  ·show Rl _ _ _ (look (ts.map _) t) true _
   rw [h'];exact rl_one
  ·show Rl _ _ _ (look (ts.map _) t) true _
   rw [h']
   unfold AV.renW
   cases hw:(look st.env t).whole sel with
   | true=>exact ren_rl hF _ hw (he t)
   | false=>exact rl_one
 ·intro k q av hm
  simp only [St.pick,List.mem_map,List.mem_filter,Bool.and_eq_true] at hm
  obtain ⟨⟨k',q',av'⟩,⟨hm,hs1,hs2⟩,e⟩:=hm
  simp only [Prod.mk.injEq] at e hs1 hs2
  obtain ⟨rfl,rfl,rfl⟩:=e
  obtain ⟨j,hj⟩:=Option.isSome_iff_exists.1 hs1
  obtain ⟨g,v,g1,g2,g3⟩:=hp k' q' av' hm
  refine ⟨g,v,?_,g2,ren_rl hF _ hs2 g3⟩
  rw [hj]
  simp only [Option.getD_some]
  rw [hF j k' (posOf_get hj)];exact g1
theorem VC.pick {c:Cx} {code:Code} {K:Exit→St→Prop} {st:St} (ts:List Tmp) (sel:List Nat) (hs:selOk c.F0.length st.X.length sel = true) (h:VC c code K (st.pick ts sel)):VC c code K st :=
 VC.ghost (fun _ _ hr=>hr.pick ts hs) h
def nextK (nb:Nat) (J:Nat→St→Prop) (n:Nat) (st:St):Prop:=∃ ts sel m,m < n∧selOk nb st.X.length sel = true∧J m (st.pick ts sel)
@[congr] theorem nextK_congr {nb n:Nat} {J:Nat→St→Prop} {st st':St} (h:tick st = st'):nextK nb J n st = nextK nb J n st':=by rw [tick_eq] at h;rw [h]
theorem nextK.of {nb n:Nat} {J:Nat→St→Prop} {st:St} (ts:List Tmp) (sel:List Nat) (m:Nat) (hm:m < n) (hs:selOk nb st.X.length sel = true) (h:J m (st.pick ts sel)):nextK nb J n st:=⟨ts,sel,m,hm,hs,h⟩
theorem VC.rounds {c:Cx} {x:Code} {K:Exit→St→Prop} {st:St} (J:Nat→St→Prop) (h0:∃ n,J n st)
  (hr:∀ n st,J n st→VC c x (thenK (nextK c.F0.length J n) K) st):VC c (.loop x) K st:=by
 refine VC.loop (fun n st'=>J n st'∨∃ ts sel,selOk c.F0.length st'.X.length sel = true∧J n (st'.pick ts sel)) ?_ fun n st' hJ=>?_
 ·obtain ⟨n,hn⟩:=h0;exact ⟨n,.inl hn⟩
 ·have fin:∀ st'',J n st''→VC c x (thenK (fun st'=>∃ m,m < n∧(J m st'∨∃ ts sel,selOk c.F0.length st'.X.length sel = true∧J m (st'.pick ts sel))) K) st'':=fun st'' hJ =>
   (hr n st'' hJ).mono fun e st hk=>by
    cases e with
    | normal=>obtain ⟨ts,sel,m,h1,h2,h3⟩:=hk;exact ⟨m,h1,.inr ⟨ts,sel,h2,h3⟩⟩
    | _=>exact hk
  rcases hJ with hJ | ⟨ts,sel,hs,hJ⟩
  ·exact fin st' hJ
  ·exact VC.pick ts sel hs (fin _ hJ)
end Go.Vc

/- Regions whose order is drawn. -/
namespace Go.Vc
set_option linter.all false
open T (hdr blk)
def capless:AV→Bool
 | .nils _=>true
 | .sub _ _ _ 0 true=>true
 | _=>false
theorem src_m {nb z:Nat} {X:List D} {k:Nat} {q:Path} {lo n:Nat} {ex:Bool} {r:Sc} (h:(AV.sub k q lo n ex).src nb z X = some r):r.m = n:=by
 simp only [AV.src] at h
 split at h
 ·split at h
  ·rename_i s' _ _
   cases hfr:(s'.mid lo n).free with
   | true=>rw [hfr] at h;simp only [cond_true,Option.some.injEq] at h;subst h;rfl
   | false =>
    rw [hfr] at h;simp only [cond_false] at h
    cases q with
    | cons _ _=>cases h
    | nil =>
     simp only at h
     cases hb:Nat.ble nb k with
     | false=>rw [hb] at h;cases h
     | true=>rw [hb] at h;simp only [cond_true,Option.some.injEq] at h;subst h;rfl
  ·cases h
 ·cases h
theorem app_ext {c:Cx} {τ:Tab} (hτ:Tab.Ok c.P τ) {st:St} {w:World} {I:Nat→Prop} {F:List G} (hi:Inv c st.X st.κ w I F) {t ty:TypeId} {e z by_:Nat} {zv:Value} (ht:(τ t).sl = some (e,z,by_,zv)) {b x:AV} {v vx:Value}
  (hv:Rl w.heap I F b true [v]) (hx:Rl w.heap I F x true [vx]) {K:AV→St→Prop} (hK:appVc c.F0.length z by_ st b x K) (hc:capless b = true) {v':Value} {w':World}
  (hrun:(Builtin.append_ #[t,t] ty #[v,vx]).run c.P w = .ok v' w'):Ext w w':=by
 have key:∀ r,x.src c.F0.length z st.X = some r→fits 0 r.m by_→(∃ A,v = .slice A 0 0∧∀ y,A = some y→y.spot = none)→Ext w w':=by
  rintro r hr ⟨hf1,hf2⟩ ⟨A,rfl,hA⟩
  rw [←hi.erase] at hr
  obtain ⟨F1,x',o2,A2,c2,s1,s2,s3,s4,s5,s6,s7⟩:=src_ok hi.holds hx hr
  subst s3
  obtain ⟨u1,inf,u2,u3,u4,u5,u6⟩:=(hτ t).sl _ _ _ _ ht
  rw [←u4] at s4
  have H1:T.Holds w.heap I (.sl true (.slice A 0 0) inf.size .nil):=by
   cases A with
   | none=>exact ⟨trivial,trivial,(fun h=>by cases h),rfl,rfl,rfl⟩
   | some y=>exact ⟨trivial,trivial,(fun h=>by cases h),rfl,fun _=>hA y rfl,rfl⟩
  obtain ⟨v2,w2,r1,_,_,_,_,r6,_⟩:=append_node (P:=c.P) w (ty:=ty) u1 u2 u3 H1 s4 (by rw [u6,u4]) hi.ilt (fun h1 h2=>by omega)
   (fun b hb=>by
    simp only [T.owned,List.nil_append] at hb
    have h6:=s6 b
    exact hi.lt b (by rw [mem_of_count] at *;omega)) (by rw [u5];exact hf1) hf2
  rw [r1] at hrun
  cases hrun
  exact fun b hb=>r6 b hb fun _ _ h1 h2=>by omega
 have hsub:∀ k q lo,b = .sub k q lo 0 true→∃ A,v = .slice A 0 0∧∀ y,A = some y→y.spot = none:=by
  rintro k q lo rfl
  obtain ⟨own,a,z0,len,v1,_,h1,A,cc,h2,_,_,_,h3,h4⟩:=hv
  cases h1
  obtain rfl:cc = 0:=h3 rfl
  refine ⟨A,h2,fun y hy=>?_⟩
  subst hy
  split at h4
  ·cases h4.1
  ·obtain ⟨y',hy',h5,_⟩:=h4;cases hy';exact h5
  ·exact h4.elim
 cases b with
 | nils z0 =>
  simp only [appVc,appFresh] at hK
  have hv0:v = .slice none 0 0:=by cases hv;rfl
  cases hr:x.src c.F0.length z st.X with
  | none=>rw [hr] at hK;exact hK.elim
  | some r =>
   rw [hr] at hK
   exact key r hr hK.2.2.1 ⟨none,hv0,fun y h=>by cases h⟩
 | sub k q lo n ex =>
  obtain ⟨rfl,rfl⟩:n = 0∧ex = true:=by
   cases ex <;> cases n <;> simp [capless] at hc ⊢
  have hs:=hsub k q lo rfl
  have fresh:appFresh c.F0.length z by_ st (.sub k q lo 0 true) x K→Ext w w':=fun h=>by
   unfold appFresh at h
   split at h
   ·rename_i rb r hrb hr
    have hm:rb.m = 0:=src_m hrb
    obtain ⟨_,_,h3,_⟩:=h
    rw [hm] at h3
    exact key r hr h3 hs
   ·exact h.elim
  have same:appSame c.F0.length z by_ st (.sub k q lo 0 true) x K→Ext w w':=fun h=>by
   unfold appSame at h
   split at h
   ·rename_i rb r hrb hr
    have hm:rb.m = 0:=src_m hrb
    obtain ⟨_,h2,h3,_⟩:=h
    rw [hm] at h3
    exact key r hr (by rw [h2];exact h3) hs
   ·exact h.elim
  have root:∀ lo,appRoot c.F0.length z by_ st k lo 0 x K→Ext w w':=fun lo h=>by
   unfold appRoot at h
   split at h
   ·exact h.elim
   ·rename_i r hr
    split at h
    ·exact key r hr h.2.2.1 hs
    ·exact h.elim
  unfold appVc at hK
  split at hK
  ·rename_i heq;cases heq
  ·rename_i heq
   cases heq
   cases hb:Nat.ble c.F0.length k with
   | true=>rw [hb] at hK;exact root _ hK
   | false =>
    rw [hb] at hK
    simp only [cond_false] at hK
    split at hK
    ·rename_i r _
     cases hb2:Nat.blt 0 r.m with
     | true=>rw [hb2] at hK;exact fresh hK
     | false=>rw [hb2] at hK;exact same hK
    ·exact hK.elim
  ·rename_i heq
   cases heq
   split at hK
   ·rename_i r _
    cases hb2:Nat.blt 0 r.m with
    | true=>rw [hb2] at hK;exact fresh hK
    | false=>rw [hb2] at hK;exact same hK
   ·exact hK.elim
  ·exact fresh hK
 | _=>simp [capless] at hc
def freshOk (τ:Tab) (st:St) (o:Oper):Prop :=
 match o.op with
 | .call cc=>match cc.callee,cc.args.toList,cc.argTypes.toList with
  | .builtin .append,[x,_],[t,_]=>capless (st.evT τ t x) = true
  | .value _,_,_=>callStill τ st (.call cc) = true
  | _,_,_=>False
 | _=>False
theorem fresh_ext {c:Cx} {τ:Tab} (hτ:Tab.Ok c.P τ) {st:St} {a:Act} {w:World} (h:Rel c st a w) {o:Oper} {K:AV→St→Prop} (hv:opVc c τ o st K) (hf:freshOk τ st o) (hns:callStill τ st o.op = false):∃ v w',(execOp a.eval o).run c.P w = .ok (.value v) w'∧Ext w w':=by
 obtain ⟨dst,op,ty,pos,after,guard⟩:=o
 obtain ⟨hd,hs,I,F,hi,he,hp⟩:=h
 unfold freshOk at hf
 simp only at hf
 split at hf
 case h_2=>exact hf.elim
 rename_i cc
 split at hf
 case h_2=>rw [hf] at hns;cases hns
 case h_3=>exact hf.elim
 rename_i x y t u hcal hargs hty
 unfold opVc at hv
 simp only [hcal] at hv
 split at hv
 ·unfold newVc at hv
  simp only [hcal,hargs,hty] at hv
  obtain ⟨av,st',v,w',_,hrun,_,hex⟩:=zap_ok hτ ⟨hd,hs,I,F,hi,he,hp⟩ (ty:=ty) hv
  have h1:cc.args.map a.eval = #[a.eval x,a.eval y]:=by
   apply Array.ext'
   simp [hargs]
  have h2:cc.argTypes = #[t,u]:=by
   apply Array.ext'
   simp [hty]
  exact ⟨v,w',by simp [execOp,resolve,hcal,h1,h2,invoke,builtin,hrun],hex⟩
 unfold effVc at hv
 simp only [hcal,hargs,hty] at hv
 split at hv
 case h_2=>exact hv.elim
 rename_i e z by_ zv ht
 obtain ⟨rfl,hv⟩:=hv
 have h1:cc.args.map a.eval = #[a.eval x,a.eval y]:=by
  apply Array.ext'
  simp [hargs]
 have h2:cc.argTypes = #[t,t]:=by
  apply Array.ext'
  simp [hty]
 obtain ⟨av,st',v',w2,g1,g2,g3⟩:=appVc_ok hτ hd hs hi he hp (ty:=ty) ht (he.evT (τ:=τ) t x) (he.evT (τ:=τ) t y) hv
 have h3:(execOp a.eval ⟨dst,.call cc,ty,pos,after,guard⟩).run c.P w = .ok (.value v') w2:=by
  simp [execOp,resolve,hcal,h1,h2,invoke,builtin,g2]
 exact ⟨_,_,h3,app_ext hτ hi ht (he.evT (τ:=τ) t x) (he.evT (τ:=τ) t y) hv hf g2⟩
section
variable {P:Program} {ops:Array Oper} {Q:Exit→Act→World→Prop} {md:Region.Mode}
def wpAnyT (P:Program) (md:Region.Mode) (ops:Array Oper) (E:Nat→Bool) (Q:Exit→Act→World→Prop):Nat→Array Bool→Act→World→Prop
 | 0,listed,a,w=>Region.ready md ops listed = []∧Q .normal a w
 | fuel + 1,listed,a,w =>
  (Region.ready md ops listed = []→Q .normal a w) ∧
  ∀ i∈Region.ready md ops listed,wpOp P ops Q i (fun a' w'=>(E i = true→Ext w w')∧wpAnyT P md ops E Q fuel (listed.setIfInBounds i true) a' w') a w
variable {E:Nat→Bool}
theorem wpAny_of_T:∀ (fuel:Nat) (listed:Array Bool) (a:Act) (w:World),wpAnyT P md ops E Q fuel listed a w→wpAny P md ops Q fuel listed a w
 | 0,_,_,_,h=>h
 | fuel + 1,_,_,_,h=>⟨h.1,fun i hi=>wpOp_mono (fun a' w' h'=>wpAny_of_T fuel _ a' w' h'.2) (h.2 i hi)⟩
def YieldsS (P:Program) (ops:Array Oper) (S:World→Prop) (o:Oper) (v:Value) (a:Act):Prop :=
 (Region.wanted o (yielded ops a.tmps) = true∧∀ w,S w→(execOp a.eval o).run P w = .ok (.value v) w) ∨
 (Region.wanted o (yielded ops a.tmps) = false∧v = undef)
theorem YieldsS.wpOp {S:World→Prop} {i:Nat} {o:Oper} {v:Value} {a:Act} (hi:ops[i]? = some o) (hy:YieldsS P ops S o v a)
  {K:Act→World→Prop} {w:World} (hS:S w) (h:K (a.put o.dst v) w):wpOp P ops Q i K a w:=by
 unfold Go.wpOp
 simp only [hi]
 rcases hy with ⟨hw,hv⟩ | ⟨hw,rfl⟩
 ·simp only [hw,if_true,Oper.wp,hv w hS,Oper.upon];exact .inl h
 ·simp only [hw,Bool.false_eq_true,if_false];exact h
theorem YieldsS.of_same {S:World→Prop} {o:Oper} {v:Value} {a a':Act} (hy:YieldsS P ops S o v a) (he:execOp a'.eval o = execOp a.eval o)
  (hw:Region.wanted o (yielded ops a'.tmps) = Region.wanted o (yielded ops a.tmps)):YieldsS P ops S o v a':=by
 unfold YieldsS at *
 rw [he,hw]
 exact hy
theorem wpOp_putS {S:World→Prop} {j:Nat} {oi oj:Oper} {v:Value} (hj:ops[j]? = some oj) (hap:oi.apart ops oj = true)
  (hsi:∀ cs b,oi.op≠.select cs b) (hsj:∀ cs b,oj.op≠.select cs b)
  (hQ:∀ c a w,Q (.panic c) (a.put oi.dst v) w→Q (.panic c) a w) {K:Act→World→Prop} {a:Act} {w:World}
  (hy:YieldsS P ops S oi v a) (h:wpOp P ops Q j K (a.put oi.dst v) w) :
  wpOp P ops Q j (fun a' w'=>YieldsS P ops S oi v a'∧K (a'.put oi.dst v) w') a w:=by
 obtain ⟨h1,h2,h3⟩:=Oper.apart_spec hap
 have keep:∀ (a:Act),YieldsS P ops S oi v a→∀ u,YieldsS P ops S oi v (a.put oj.dst u):=fun a hy u =>
  hy.of_same (execOp_put oi hsi a oj.dst u h3) (wanted_put oi a oj.dst u h3)
 have keepD:∀ d,YieldsS P ops S oi v { a with defers:=d :: a.defers }:=fun d=>hy.of_same rfl rfl
 unfold wpOp at *
 simp only [hj] at *
 rw [wanted_put oj a oi.dst v h1] at h
 split
 ·rename_i hw
  simp only [hw,if_true] at h
  rcases h with h | ⟨hasks,hlets⟩
  case inr=>exact .inr ⟨by unfold Oper.asks at *;rw [execOp_put oj hsj a oi.dst v h1] at hasks;exact hasks,hlets⟩
  refine .inl ?_
  unfold Oper.wp at *
  rw [execOp_put oj hsj a oi.dst v h1] at h
  generalize (execOp a.eval oj).run P w = r at *
  cases r with
  | ok n w' =>
   cases n <;> simp only [Oper.upon] at h ⊢
   case value u=>exact ⟨keep a hy u,by rw [←Act.put_comm a v u h2];exact h⟩
   case skip=>exact ⟨keep a hy _,by rw [←Act.put_comm a v undef h2];exact h⟩
   case defer d =>
    refine ⟨keep _ (keepD d) _,?_⟩
    rw [←Act.put_comm _ v undef h2,←Act.put_defers]
    exact h
   case enter f args =>
    refine Calls.mono h fun e w'' he=>?_
    cases e with
    | returned u=>exact ⟨keep a hy u,by rw [←Act.put_comm a v u h2];exact he⟩
    | panicked c=>exact hQ _ _ _ he
    | outgrown=>exact he
   case row row args=>exact Rows.mono h fun u w'' he=>⟨keep a hy u,by rw [←Act.put_comm a v u h2];exact he⟩
  | halt x w' =>
   cases x <;> simp only [Oper.upon] at h ⊢
   case panic u=>exact hQ _ _ _ h
 ·rename_i hw
  simp only [hw] at h
  exact ⟨keep a hy _,by rw [←Act.put_comm a v undef h2];exact h⟩
theorem wpAnyT_first {S:World→Prop} {i:Nat} {oi:Oper} {v:Value} (hi:ops[i]? = some oi) (hsel:∀ (j:Nat) (o:Oper) cs b,ops[j]? = some o→o.op≠.select cs b)
  (hQ:∀ c a w,Q (.panic c) (a.put oi.dst v) w→Q (.panic c) a w) (hSE:(∀ w,S w)∨∀ w w',S w→Ext w w'→S w') (D:Nat→Bool)
  (hD:∀ j oj,ops[j]? = some oj→D j = true→∃ e∈oj.after,Region.binds md e = true∧(e.on = i∨D e.on = true)) :
  ∀ (fuel:Nat) (listed:Array Bool) (a:Act) (w:World),(∀ j,D j = true→listed.getD j false = false) →
   (∀ j oj,ops[j]? = some oj→j≠i→listed.getD j true = false→D j = false→oi.apart ops oj = true∧((∀ w,S w)∨E j = true)) →
   i∈Region.ready md ops listed→YieldsS P ops S oi v a→S w →
   wpAnyT P md ops E Q fuel (listed.setIfInBounds i true) (a.put oi.dst v) w→wpAnyT P md ops E Q (fuel + 1) listed a w:=by
 intro fuel
 induction fuel with
 | zero =>
  intro listed a w _ _ hr hy hS H
  refine ⟨fun h=>(by rw [h] at hr;cases hr),fun j hj=>?_⟩
  by_cases hji:j = i
  ·subst hji;exact hy.wpOp hi hS ⟨fun _ _ _=>rfl,H⟩
  ·have:=ready_mono hj hji
   rw [H.1] at this
   cases this
 | succ fuel ih =>
  intro listed a w hDl hfree hr hy hS H
  refine ⟨fun h=>(by rw [h] at hr;cases hr),fun j hj=>?_⟩
  by_cases hji:j = i
  ·subst hji;exact hy.wpOp hi hS ⟨fun _ _ _=>rfl,H⟩
  ·have h1:=H.2 j (ready_mono hj hji)
   obtain ⟨hjun,oj,hoj,hall⟩:=mem_ready.1 hj
   have hiun:=(mem_ready.1 hr).1
   have hjD:D j = false:=by
    cases hd:D j with
    | false=>rfl
    | true =>
     exfalso
     obtain ⟨e,he,hb,h2⟩:=hD j oj hoj hd
     have h3:=hall e he hb
     rcases h2 with h2 | h2
     ·rw [h2] at h3
      rcases Nat.lt_or_ge i listed.size with h' | h'
      ·simp [h'] at hiun h3;rw [hiun] at h3;cases h3
      ·simp [Array.getElem?_eq_none h'] at h3
     ·rw [hDl _ h2] at h3;cases h3
   obtain ⟨hap,hext⟩:=hfree j oj hoj hji hjun hjD
   have h2:=wpOp_putS hoj hap (fun cs b=>hsel i oi cs b hi) (fun cs b=>hsel j oj cs b hoj) hQ hy h1
   have hDl':∀ k,D k = true→(listed.setIfInBounds j true).getD k false = false:=fun k hk=>by
    by_cases hjk:j = k
    ·subst hjk;rw [hjD] at hk;cases hk
    ·rw [getD_set_ne false hjk];exact hDl k hk
   have hfree':∀ k ok,ops[k]? = some ok→k≠i→(listed.setIfInBounds j true).getD k true = false→D k = false→oi.apart ops ok = true∧((∀ w,S w)∨E k = true):=fun k ok hk hki hun hno=>by
    refine hfree k ok hk hki ?_ hno
    by_cases hjk:j = k
    ·subst hjk;exact hjun
    ·rw [getD_set_ne true hjk] at hun;exact hun
   refine wpOp_mono (fun a' w' h3=>⟨h3.2.1,ih (listed.setIfInBounds j true) a' w' hDl' hfree' (ready_mono hr (Ne.symm hji)) h3.1 ?_ ?_⟩) h2
   ·rcases hSE with h | h
    ·exact h _
    ·rcases hext with h' | h'
     ·exact h' _
     ·exact h w w' hS (h3.2.1 h')
   ·rw [Array.setIfInBounds_comm _ _ hji]
    exact h3.2.2
theorem wpAnyT_done {listed:Array Bool} {a:Act} {w:World} (hr:Region.ready md ops listed = []) (h:Q .normal a w) :
  ∀ fuel,wpAnyT P md ops E Q fuel listed a w
 | 0=>⟨hr,h⟩
 | _ + 1=>⟨fun _=>h,by rw [hr];simp⟩
end
inductive Plan where
 | done
 | take (i:Nat) (p:Plan)
 | fork (l:Plan)
 | alt (i:Nat) (p r:Plan)
 | nil
def pureOp:Op→Bool
 | .move _ | .assign _ | .pick _ _ _ | .nilCheck _ | .binOp _ _ _ _ _ | .unOp _ _ _ | .convert _ _ _ | .fieldAddr _ _ _ | .indexAddr _ _ _ | .index _ _ _ | .extract _ _ | .build _ _ | .slice _ _ _ _ _ | .makeFunc _ _ _=>true
 | .call c=>match c.callee with
  | .builtin .len=>true
  | .builtin .cap=>true
  | .builtin .min=>true
  | .builtin .max=>true
  | _=>false
 | _=>false
def loadOp:Op→Bool
 | .load _ _=>true
 | _=>false
def Plan.alts:Plan→List Nat
 | .alt i _ r=>i :: r.alts
 | _=>[]
def FreeP (ops:Array Oper) (E:Nat→Bool) (listed:Array Bool) (i:Nat) (D:Nat→Bool) (o:Oper):Prop :=
 (∀ j oj,ops[j]? = some oj→D j = true→∃ e∈oj.after,Region.binds .any e = true∧(e.on = i∨D e.on = true)) ∧
 (∀ j,D j = true→listed.getD j false = false) ∧
 (∀ j oj,ops[j]? = some oj→j≠i→listed.getD j true = false→D j = false→o.apart ops oj = true∧(pureOp o.op = true∨E j = true))
def Plan.isMain:Plan→Bool
 | .alt _ _ _=>false
 | .nil=>false
 | _=>true
def Plan.depth:Plan→Nat
 | .done=>0
 | .take _ p=>p.depth + 1
 | .fork l=>l.depth
 | .alt _ p r=>max (p.depth + 1) r.depth
 | .nil=>0
def PlanOk (ops:Array Oper) (E:Nat→Bool):Plan→Array Bool→Prop
 | .done,listed=>Region.ready .any ops listed = []
 | .take i p,listed=>i∈Region.ready .any ops listed∧(∃ o,ops[i]? = some o∧(pureOp o.op || loadOp o.op) = true∧∃ D,FreeP ops E listed i D o)∧p.isMain = true∧PlanOk ops E p (listed.setIfInBounds i true)
 | .fork l,listed=>Region.ready .any ops listed≠[]∧(∀ i∈Region.ready .any ops listed,i∈l.alts)∧PlanOk ops E l listed
 | .alt i p r,listed=>p.isMain = true∧PlanOk ops E p (listed.setIfInBounds i true)∧PlanOk ops E r listed
 | .nil,_=>True
def stepVc (c:Cx) (τ:Tab) (gs:List (Nat×Tmp)) (ops:List Oper) (i:Nat) (st:St) (K:St→Prop):Prop :=
 bindK (ops[i]?) fun o=>match o with
 | some o=>match o.guard with
  | none=>opVc c τ o st fun av st'=>putVc gs i o.dst av st' K
  | some g=>bindK (guardOf gs st (some g)) fun b=>match b with
   | some true=>opVc c τ o st fun av st'=>putVc gs i o.dst av st' K
   | some false=>K (st.put o.dst (.tup .nil))
   | none=>False
 | none=>False
theorem take_ok {c:Cx} {τ:Tab} (hτ:Tab.Ok c.P τ) {st:St} {a:Act} {w:World} {I:Nat→Prop} {F:List G} (hi:Inv c st.X st.κ w I F) (he:EnvOk st.env a w I F) (hp:PlOk st.pl w I F) {o:Oper} {K:AV→St→Prop}
  (ho:(pureOp o.op || loadOp o.op) = true) (hv:opVc c τ o st K):∃ av v,K av st∧Rl w.heap I F av true [v]∧∀ w',(pureOp o.op = true∨Ext w w')→(execOp a.eval o).run c.P w' = .ok (.value v) w':=by
 have pure:∀ {K':AV→Prop},(∀ av,K' av→K av st)→pureVc τ o.op o.type st K'→∃ av v,K av st∧Rl w.heap I F av true [v]∧∀ w',(pureOp o.op = true∨Ext w w')→(execOp a.eval o).run c.P w' = .ok (.value v) w':=fun hk hv=>by
  obtain ⟨av,v,h1,h2,h3⟩:=pure_ok hτ hi he hv
  exact ⟨av,v,hk _ h1,h2,fun w' _=>h3 w'⟩
 unfold opVc at hv
 split at hv
 ·rename_i t x hop
  obtain ⟨av,v,h1,h2,h3⟩:=load_ok hτ hi he hp (o:=o) (K:=fun av=>K av st) (by rw [hop];exact hv)
  exact ⟨av,v,h1,h2,fun w' hw=>h3 w' (hw.resolve_left (by rw [hop];simp [pureOp]))⟩
 ·rename_i hop;rw [hop] at ho;cases ho
 ·rename_i hop;rw [hop] at ho;cases ho
 ·rename_i hop;rw [hop] at ho;cases ho
 ·rename_i hop;rw [hop] at ho;cases ho
 ·rename_i t parts hop
  obtain ⟨av,v,h1,h2,h3⟩:=build_ok hτ he hv
  refine ⟨av,v,h1,h2,fun w' _=>?_⟩
  obtain ⟨dst,op,ty,pos,after,guard⟩:=o
  simp only at hop;subst hop
  simp [execOp,h3]
 ·rename_i t x lo hi' mx hop
  obtain ⟨hm,hv⟩:=hv
  have opt:∀ (x:Option Operand),RlO w.heap I F (x.map st.ev) (x.map a.eval):=fun x=>by
   cases x with
   | none=>trivial
   | some x=>exact he.ev x
  obtain ⟨av,v,h1,h2,h3⟩:=slice_ok hτ hi (he.evT (τ:=τ) t x) (opt lo) (opt hi') (opt mx) (by simpa using hm) hv
  refine ⟨av,v,h1,h2,fun w' _=>?_⟩
  obtain ⟨dst,op,ty,pos,after,guard⟩:=o
  simp only at hop;subst hop
  simp [execOp,h3]
 ·rename_i cc hop
  split at hv
  ·rename_i hcal;rw [hop] at ho;simp [pureOp,loadOp,hcal] at ho
  ·rename_i hcal;rw [hop] at ho;simp [pureOp,loadOp,hcal] at ho
  ·rename_i hcal;rw [hop] at ho;simp [pureOp,loadOp,hcal] at ho
  ·rename_i f hcal;rw [hop] at ho;simp [pureOp,loadOp,hcal] at ho
  ·exact pure (K':=fun av=>K av st) (fun _ h=>h) (by rw [hop];exact hv)
 ·rename_i op t x y ty hop
  split at hv
  ·rename_i s u hx hy
   obtain ⟨hop2,b,⟨h1,h2⟩,h3⟩:=hv
   have hxv:=he.ev x
   have hyv:=he.ev y
   rw [hx] at hxv
   rw [hy] at hyv
   obtain ⟨xs,e1,r1⟩:=hxv
   obtain ⟨ys,e2,r2⟩:=hyv
   injection e1 with e1 _
   injection e2 with e2 _
   obtain ⟨dst,op',ty',pos,after,guard⟩:=o
   simp only at hop;subst hop
   rcases hop2 with rfl | rfl
   ·refine ⟨_,.bool b,h3,⟨rfl,rfl⟩,fun w' _=>?_⟩
    have hr:=h2 w.heap I F xs ys w' r1 r2
    simp [execOp,eqGuard,h1,binOp,e1,e2,hr]
   ·refine ⟨_,.bool !b,h3,⟨rfl,rfl⟩,fun w' _=>?_⟩
    have hr:=h2 w.heap I F xs ys w' r1 r2
    simp [execOp,eqGuard,h1,binOp,e1,e2,hr]
  ·exact pure (K':=fun av=>K av st) (fun _ h=>h) (by rw [hop];exact hv)
 ·rename_i hop;rw [hop] at ho;cases ho
 ·rename_i hop;rw [hop] at ho;cases ho
 ·rename_i hop;rw [hop] at ho;cases ho
 ·rename_i hop;rw [hop] at ho;cases ho
 ·exact pure (K':=fun av=>K av st) (fun _ h=>h) hv
section
variable {c:Cx} {τ:Tab} {ops:List Oper} {gs:List (Nat×Tmp)} {Q:Exit→Act→World→Prop}
theorem dst_lt (hnt:dstsOk c.nt ops = true) {i:Nat} {o:Oper} (ho:ops[i]? = some o):∀ t,o.dst = some t→t < c.nt:=fun t ht=>by
 have:=List.all_eq_true.1 hnt o (List.mem_of_getElem? ho)
 rw [ht] at this;exact Nat.le_of_ble_eq_true this
def exts (EM:Nat) (ops:Array Oper) (i:Nat):Bool:=((ops[i]?).any fun o=>extOp o.op) || Nat.testBit EM i
def freshAt (EM:Nat) (τ:Tab) (ops:List Oper) (i:Nat) (st:St):Prop:=Nat.testBit EM i = true→∀ o,ops[i]? = some o→o.guard = none∧freshOk τ st o
theorem step_ok0 (hτ:Tab.Ok c.P τ) (hgs:gsOk ops gs = true) (hnt:dstsOk c.nt ops = true) {i:Nat} {st:St} {a:Act} {w:World} {K:St→Prop} (h:Rel c st a w) (hv:stepVc c τ gs ops i st K) :
  wpOp c.P ops.toArray Q i (fun a' w'=>(((ops.toArray[i]?).any fun o=>extOp o.op || callStill τ st o.op) = true→Ext w w')∧∃ st',K st'∧Rel c st' a' w') a w:=by
 unfold stepVc bindK at hv
 unfold wpOp
 cases ho:ops[i]? with
 | none=>rw [ho] at hv;exact hv.elim
 | some o =>
  rw [ho] at hv
  have ho':ops.toArray[i]? = some o:=by simpa using ho
  simp only [ho']
  simp only at hv
  have hdst:=dst_lt hnt ho
  have run:(opVc c τ o st fun av st'=>putVc gs i o.dst av st' K)→Region.wanted o (yielded ops.toArray a.tmps) = true →
    (if Region.wanted o (yielded ops.toArray a.tmps) = true then o.wp c.P a w (fun a' w'=>(((some o).any fun o=>extOp o.op || callStill τ st o.op) = true→Ext w w')∧∃ st',K st'∧Rel c st' a' w') Q∨(o.asks c.P a w∧LetsOut Q)
     else (((some o).any fun o=>extOp o.op || callStill τ st o.op) = true→Ext w w)∧∃ st',K st'∧Rel c st' (a.put o.dst undef) w):=fun hv hw=>by
   rw [if_pos hw]
   refine .inl (op_ok hτ h hv fun av v st' w' h1 h2 h3=>⟨fun he=>h3 (by simpa using he),?_⟩)
   exact put_ok h1 h2 hdst
  cases hg:o.guard with
  | none =>
   rw [hg] at hv
   exact run hv (by simp [Region.wanted,hg])
  | some g =>
   rw [hg] at hv
   simp only at hv
   cases hb:guardOf gs st (some g) with
   | none=>rw [hb] at hv;exact hv.elim
   | some b =>
    rw [hb] at hv
    have hw:=guardOf_ok hgs h (o:=o) (b:=b) (by rw [hg];exact hb)
    cases b with
    | true=>exact run hv hw
    | false =>
     rw [if_neg (by rw [hw];simp)]
     obtain ⟨hd,hs,I,F,hi,he,hp⟩:=h
     exact ⟨fun _ _ _=>rfl,_,hv,RelR.put (av:=.tup .nil) (v:=undef) ⟨hd,hs,I,F,hi,he,hp,[],rfl,rfl⟩ hdst⟩
theorem step_ok (hτ:Tab.Ok c.P τ) (hgs:gsOk ops gs = true) (hnt:dstsOk c.nt ops = true) {EM:Nat} {i:Nat} {st:St} {a:Act} {w:World} {K:St→Prop} (h:Rel c st a w) (hf:freshAt EM τ ops i st) (hv:stepVc c τ gs ops i st K) :
  wpOp c.P ops.toArray Q i (fun a' w'=>(exts EM ops.toArray i = true→Ext w w')∧∃ st',K st'∧Rel c st' a' w') a w:=by
 have h0:=step_ok0 (Q:=Q) hτ hgs hnt h hv
 cases he:Nat.testBit EM i with
 | false =>
  refine wpOp_mono (fun a' w' h1=>⟨fun h2=>h1.1 ?_,h1.2⟩) h0
  simp only [exts,he,Bool.or_false] at h2
  cases ho:ops.toArray[i]? with
  | none=>rw [ho] at h2;exact h2
  | some o=>rw [ho] at h2;simp only [Option.any_some] at h2 ⊢;rw [h2];rfl
 | true =>
  by_cases hcs:((ops.toArray[i]?).any fun o=>callStill τ st o.op) = true
  ·refine wpOp_mono (fun a' w' h1=>⟨fun _=>h1.1 ?_,h1.2⟩) h0
   cases ho:ops.toArray[i]? with
   | none=>rw [ho] at hcs;exact hcs
   | some o=>rw [ho] at hcs;simp only [Option.any_some] at hcs ⊢;rw [hcs];simp
  unfold wpOp at h0 ⊢
  cases ho:ops[i]? with
  | none=>unfold stepVc bindK at hv;rw [ho] at hv;exact hv.elim
  | some o =>
   rw [show ops.toArray[i]? = some o by simpa using ho] at h0 ⊢
   obtain ⟨hg,hfr⟩:=hf he o ho
   have hw:Region.wanted o (yielded ops.toArray a.tmps) = true:=by simp [Region.wanted,hg]
   simp only [hw,if_true] at h0 ⊢
   unfold stepVc bindK at hv
   rw [ho] at hv
   simp only [hg] at hv
   obtain ⟨v,w',hrun,hext⟩:=fresh_ext hτ h hv hfr (by rw [show ops.toArray[i]? = some o by simpa using ho] at hcs;simpa using hcs)
   rcases h0 with h0 | h0
   ·refine .inl ?_
    unfold Oper.wp at h0 ⊢
    rw [hrun] at h0 ⊢
    exact ⟨fun _=>hext,h0.2⟩
   ·exact .inr h0
theorem plan_ok (hτ:Tab.Ok c.P τ) (hgs:gsOk ops gs = true) (hnt:dstsOk c.nt ops = true) (hsel:Region.noSelect ops.toArray = true) {EM:Nat} {PV:Plan→St→Prop} (hVd:∀ st a w,PV .done st→Rel c st a w→Q .normal a w)
  (hVt:∀ i p st,PV (.take i p) st→stepVc c τ gs ops i st (PV p)) (hVf:∀ l st,PV (.fork l) st→PV l st) (hVa:∀ i p r st,PV (.alt i p r) st→freshAt EM τ ops i st∧stepVc c τ gs ops i st (PV p)∧PV r st)
  (hQp:∀ ch a w d v,Q (.panic ch) (Act.put a d v) w→Q (.panic ch) a w):∀ (p:Plan),
  (∀ (listed:Array Bool) (fuel:Nat) (st:St) (a:Act) (w:World),p.isMain = true→p.depth≤fuel→PlanOk ops.toArray (exts EM ops.toArray) p listed→PV p st→Rel c st a w→wpAnyT c.P .any ops.toArray (exts EM ops.toArray) Q fuel listed a w) ∧
  (∀ (listed:Array Bool) (fuel:Nat) (st:St) (a:Act) (w:World) (i:Nat),i∈p.alts→p.depth≤fuel + 1→PlanOk ops.toArray (exts EM ops.toArray) p listed→PV p st→Rel c st a w →
   wpOp c.P ops.toArray Q i (fun a' w'=>(exts EM ops.toArray i = true→Ext w w')∧wpAnyT c.P .any ops.toArray (exts EM ops.toArray) Q fuel (listed.setIfInBounds i true) a' w') a w):=by
 intro p
 induction p with
 | done =>
  refine ⟨fun listed fuel st a w _ _ hok hv hr=>?_,fun _ _ _ _ _ _ h=>by cases h⟩
  exact wpAnyT_done hok (hVd st a w hv hr) fuel
 | nil=>exact ⟨fun _ _ _ _ _ h=>(by cases h),fun _ _ _ _ _ _ h=>(by cases h)⟩
 | take i p ih =>
  refine ⟨fun listed fuel st a w _ hdep hok hv hr=>?_,fun _ _ _ _ _ _ h=>by cases h⟩
  obtain ⟨h1,⟨o,ho,h5,D,h6⟩,h3,h4⟩:=hok
  ·skip
   have ho':ops[i]? = some o:=by simpa using ho
   have hdst:=dst_lt hnt ho'
   cases fuel with
   | zero=>simp [Plan.depth] at hdep
   | succ fuel =>
    simp only [Plan.depth] at hdep
    obtain ⟨hd,hs,I,F,hi,he,hp⟩:=id hr
    have key:∃ v st',YieldsS c.P ops.toArray (fun w'=>pureOp o.op = true∨Ext w w') o v a∧PV p st'∧Rel c st' (a.put o.dst v) w:=by
     have hv:=hVt i p st hv
     simp only [stepVc,bindK,ho'] at hv
     have run:(opVc c τ o st fun av st'=>putVc gs i o.dst av st' fun st=>PV p st)→Region.wanted o (yielded ops.toArray a.tmps) = true →
       ∃ v st',YieldsS c.P ops.toArray (fun w'=>pureOp o.op = true∨Ext w w') o v a∧PV p st'∧Rel c st' (a.put o.dst v) w:=fun hv hw=>by
      obtain ⟨av,v,g1,g2,g3⟩:=take_ok hτ hi he hp h5 hv
      obtain ⟨st',g4,g5⟩:=put_ok g1 ⟨hd,hs,I,F,hi,he,hp,g2⟩ hdst
      exact ⟨v,st',.inl ⟨hw,g3⟩,g4,g5⟩
     cases hg:o.guard with
     | none=>rw [hg] at hv;exact run hv (by simp [Region.wanted,hg])
     | some g =>
      rw [hg] at hv
      simp only at hv
      cases hb:guardOf gs st (some g) with
      | none=>rw [hb] at hv;exact hv.elim
      | some b =>
       rw [hb] at hv
       have hw:=guardOf_ok hgs hr (o:=o) (b:=b) (by rw [hg];exact hb)
       cases b with
       | true=>exact run hv hw
       | false=>exact ⟨undef,_,.inr ⟨hw,rfl⟩,hv,RelR.put (av:=.tup .nil) (v:=undef) ⟨hd,hs,I,F,hi,he,hp,[],rfl,rfl⟩ hdst⟩
    obtain ⟨v,st',g1,g2,g3⟩:=key
    obtain ⟨h61,h62,h63⟩:=h6
    refine wpAnyT_first (D:=D) ho (Region.noSelect_spec hsel) (fun ch a w=>hQp ch a w _ _) ?_ h61 fuel listed a w h62 ?_ h1 g1 (.inr fun _ _=>rfl)
     (ih.1 (listed.setIfInBounds i true) fuel st' _ w h3 (by omega) h4 g2 g3)
    ·refine .inr fun w1 w2 hw hE=>?_
     rcases hw with hw | hw
     ·exact .inl hw
     ·refine .inr fun b hb=>?_
      have h7:=hw b hb
      have h8:b < w1.heap.size:=by
       rcases Nat.lt_or_ge b w1.heap.size with h' | h'
       ·exact h'
       ·rw [Array.getElem?_eq_none h',Array.getElem?_eq_getElem hb] at h7;cases h7
      rw [hE b h8,h7]
    ·intro j oj hoj hne hun hD
     have:=h63 j oj hoj hne hun hD
     exact ⟨this.1,this.2.imp (fun h _=>.inl h) id⟩
 | fork l ih =>
  refine ⟨fun listed fuel st a w _ hdep hok hv hr=>?_,fun _ _ _ _ _ _ h=>by cases h⟩
  obtain ⟨h1,h2,h3⟩:=hok
  have hne:∃ i,i∈Region.ready .any ops.toArray listed:=List.exists_mem_of_ne_nil _ h1
  cases fuel with
  | zero =>
   obtain ⟨i,hi⟩:=hne
   have:=h2 i hi
   cases l <;> simp [Plan.alts,Plan.depth] at this hdep
  | succ fuel =>
   exact ⟨fun h=>absurd h h1,fun i hi=>ih.2 listed fuel st a w i (h2 i hi) hdep h3 (hVf _ _ hv) hr⟩
 | alt i p r ihp ihr =>
  refine ⟨fun _ _ _ _ _ h=>(by cases h),fun listed fuel st a w j hj hdep hok hv hr=>?_⟩
  obtain ⟨h2,h3,h4⟩:=hok
  simp only [Plan.depth] at hdep
  obtain ⟨hv0,hv1,hv2⟩:=hVa _ _ _ _ hv
  by_cases hji:j = i
  ·subst hji
   refine wpOp_mono (fun a' w' ⟨g1,st',g2,g3⟩=>⟨g1,?_⟩) (step_ok hτ hgs hnt hr hv0 hv1)
   exact ihp.1 (listed.setIfInBounds j true) fuel st' a' w' h2 (by omega) h3 g2 g3
  ·exact ihr.2 listed fuel st a w j (by simpa [Plan.alts,hji] using hj) (by omega) h4 hv2 hr
end
structure Rw where
 w:Nat
 l:Nat
 d:Nat
 k:Nat
def bitOf (t:Nat):Nat:=2 ^ t
def maskOf:List Nat→Nat
 | []=>0
 | t :: l=>Nat.lor (bitOf t) (maskOf l)
def rowOf (ops:Array Oper) (o:Oper):Rw where
 w:=maskOf ((o.after.toList.filter (Region.binds .any)).map (·.on))
 l:=maskOf (o.looksAt ops)
 d:=match o.dst with
  | some t=>bitOf t
  | none=>0
 k:=Nat.add (bif pureOp o.op then 1 else 0) (Nat.add (bif loadOp o.op then 2 else 0) (bif extOp o.op then 4 else 0))
def hasB (m t:Nat):Bool:=Nat.testBit m t
def rowOfE (EM:Nat) (ops:Array Oper) (j:Nat) (o:Oper):Rw :=
 { rowOf ops o with k:=bif hasB EM j then Nat.lor (rowOf ops o).k 4 else (rowOf ops o).k }
def addE (EM:Nat):List Rw→Nat→List Rw
 | [],_=>[]
 | r :: T,j=>{ r with k:=bif hasB EM j then Nat.lor r.k 4 else r.k } :: addE EM T (j + 1)
theorem addE_at (EM:Nat):∀ (T:List Rw) (j0 j:Nat),(addE EM T j0)[j]? = (T[j]?).map fun r=>{ r with k:=bif hasB EM (j0 + j) then Nat.lor r.k 4 else r.k }
 | [],_,_=>by simp [addE]
 | r :: T,j0,0=>by simp [addE]
 | r :: T,j0,j + 1=>by simp only [addE,List.getElem?_cons_succ];rw [addE_at EM T (j0 + 1) j];simp only [show j0 + 1 + j = j0 + (j + 1) by omega]
theorem addE_len (EM:Nat):∀ (T:List Rw) (j0:Nat),(addE EM T j0).length = T.length
 | [],_=>rfl
 | r :: T,j0=>by simp [addE,addE_len EM T (j0 + 1)]
def meetsB (a b:Nat):Bool:=!Nat.beq (Nat.land a b) 0
def strictN {α:Type} (m:Nat) (f:Nat→α):α:=match m with
 | 0=>f 0
 | n + 1=>f (n + 1)
theorem strictN_eq {α:Type} (m:Nat) (f:Nat→α):strictN m f = f m:=by cases m <;> rfl
def readyF (T:List Rw) (m j:Nat):Bool:=match T[j]? with
 | some r=>!hasB m j && Nat.beq (Nat.land r.w m) r.w
 | none=>false
def afterF:List Rw→Nat→Nat→Nat
 | [],_,D=>D
 | r :: T,j,D=>strictN (bif meetsB r.w D then Nat.lor D (bitOf j) else D) fun D=>afterF T (j + 1) D
def apartF (x y:Rw):Bool:=!meetsB x.d y.l && !meetsB x.d y.d && !meetsB y.d x.l
def freeF (m i:Nat) (x:Rw) (D:Nat):List Rw→Nat→Bool
 | [],_=>true
 | r :: T,j=>(bif Nat.beq j i then true else bif hasB D j then !hasB m j && meetsB r.w D else hasB m j || (apartF x r && (meetsB x.k 1 || meetsB r.k 4))) && freeF m i x D T (j + 1)
def planF (T:List Rw):Plan→Nat→Bool
 | .done,m=>(List.range T.length).all fun j=>!readyF T m j
 | .take i p,m=>readyF T m i && (match T[i]? with
  | some x=>meetsB x.k 3 && strictN (afterF T 0 (bitOf i)) fun D=>freeF m i x D T 0
  | none=>false) && p.isMain && strictN (Nat.lor m (bitOf i)) fun m=>planF T p m
 | .fork l,m=>(l.alts.all fun i=>Nat.blt i T.length) && (List.range T.length).any (readyF T m) && ((List.range T.length).all fun j=>!readyF T m j || l.alts.any (Nat.beq j)) && planF T l m
 | .alt i p r,m=>p.isMain && (strictN (Nat.lor m (bitOf i)) fun m=>planF T p m) && planF T r m
 | .nil,_=>true
theorem hasB_bit (t u:Nat):hasB (bitOf t) u = decide (t = u):=Nat.testBit_two_pow
theorem hasB_lor (a b t:Nat):hasB (Nat.lor a b) t = (hasB a t || hasB b t):=by
 show Nat.testBit (a ||| b) t = _
 simp [hasB]
theorem hasB_zero (t:Nat):hasB 0 t = false:=by simp [hasB]
theorem hasB_mask (l:List Nat) (t:Nat):hasB (maskOf l) t = l.contains t:=by
 induction l with
 | nil=>simp [maskOf,hasB_zero]
 | cons a l ih =>
  simp only [maskOf,hasB_lor,hasB_bit,ih,List.contains_cons]
  rw [Bool.eq_iff_iff]
  simp only [Bool.or_eq_true,decide_eq_true_eq,beq_iff_eq]
  exact or_congr_left eq_comm
theorem land_has (a b t:Nat):hasB (Nat.land a b) t = (hasB a t && hasB b t):=by
 show Nat.testBit (a &&& b) t = _
 simp [hasB]
theorem ext_has {a b:Nat} (h:∀ t,hasB a t = hasB b t):a = b:=Nat.eq_of_testBit_eq h
theorem meetsB_true {a b:Nat}:meetsB a b = true↔∃ t,hasB a t = true∧hasB b t = true:=by
 constructor
 ·intro h
  refine Classical.byContradiction fun hn=>?_
  have:Nat.land a b = 0:=ext_has fun t=>by
   rw [land_has,hasB_zero]
   cases h1:hasB a t <;> cases h2:hasB b t <;> simp
   exact hn ⟨t,h1,h2⟩
  unfold meetsB at h
  rw [this] at h
  cases h
 ·rintro ⟨t,h1,h2⟩
  simp only [meetsB,Bool.not_eq_true',nat_beq,decide_eq_false_iff_not]
  intro h
  have h3:hasB (Nat.land a b) t = true:=by rw [land_has,h1,h2];rfl
  rw [h,hasB_zero] at h3
  cases h3
theorem meetsB_false {a b:Nat} (h:meetsB a b = false) {t:Nat} (h1:hasB a t = true):hasB b t = false:=by
 cases h2:hasB b t with
 | false=>rfl
 | true=>rw [meetsB_true.2 ⟨t,h1,h2⟩] at h;cases h
section
variable {ops:Array Oper} {T:List Rw} {EM:Nat}
def RowsAt (EM:Nat) (ops:Array Oper) (T:List Rw):Prop:=T.length = ops.size∧∀ j,T[j]? = (ops[j]?).map (rowOfE EM ops j)
theorem rowsAt (EM:Nat) {l:List Oper} {T0:List Rw} (h:l.map (rowOf l.toArray) = T0):RowsAt EM l.toArray (addE EM T0 0):=by
 subst h
 refine ⟨by simp [addE_len],fun j=>?_⟩
 rw [addE_at]
 simp only [List.getElem?_map,Option.map_map,List.getElem?_toArray,Nat.zero_add]
 rfl
theorem row_at (hT:RowsAt EM ops T) {j:Nat}:T[j]? = (ops[j]?).map (rowOfE EM ops j):=hT.2 j
theorem row_waits {o:Oper} {i t:Nat}:hasB (rowOfE EM ops i o).w t = true↔∃ e∈o.after,Region.binds .any e = true∧e.on = t:=by
 simp only [rowOfE,rowOf,hasB_mask,List.contains_iff_mem,List.mem_map,List.mem_filter,Array.mem_toList_iff]
 constructor
 ·rintro ⟨e,⟨h1,h2⟩,h3⟩;exact ⟨e,h1,h2,h3⟩
 ·rintro ⟨e,h1,h2,h3⟩;exact ⟨e,⟨h1,h2⟩,h3⟩
def Lst (ops:Array Oper) (listed:Array Bool) (m:Nat):Prop:=listed.size = ops.size∧∀ j,listed.getD j false = hasB m j
theorem Lst.getD_true {listed:Array Bool} {m:Nat} (h:Lst ops listed m) {j:Nat} {o:Oper} (hj:ops[j]? = some o):listed.getD j true = hasB m j:=by
 have hlt:j < listed.size:=by rw [h.1];exact (Array.getElem?_eq_some_iff.1 hj).1
 rw [←h.2 j];simp [hlt]
theorem Lst.set {listed:Array Bool} {m i:Nat} (h:Lst ops listed m) (hi:i < ops.size):Lst ops (listed.setIfInBounds i true) (Nat.lor m (bitOf i)):=by
 refine ⟨by simp [h.1],fun j=>?_⟩
 rw [hasB_lor,hasB_bit,←h.2 j]
 have hi':i < listed.size:=by rw [h.1];exact hi
 by_cases hij:i = j
 ·subst hij;simp [hi']
 ·rw [Array.getD_eq_getD_getElem?,Array.getElem?_setIfInBounds_ne hij];simp [hij]
theorem readyF_iff (hT:RowsAt EM ops T) {listed:Array Bool} {m j:Nat} (h:Lst ops listed m):readyF T m j = true↔j∈Region.ready .any ops listed:=by
 rw [mem_ready]
 unfold readyF
 rw [row_at hT]
 cases ho:ops[j]? with
 | none=>simp
 | some o =>
  have h1:=h.getD_true ho
  simp only [Option.map_some,Bool.and_eq_true,Bool.not_eq_true',h1,nat_beq,decide_eq_true_eq]
  refine and_congr_right fun _=>⟨fun hw=>⟨o,rfl,fun e he hb=>?_⟩,fun ⟨o',ho',hall⟩=>?_⟩
  ·have h2:hasB (rowOfE EM ops j o).w e.on = true:=row_waits.2 ⟨e,he,hb,rfl⟩
   rw [h.2]
   rw [←hw,land_has] at h2
   simp only [Bool.and_eq_true] at h2
   exact h2.2
  ·cases ho'
   refine ext_has fun t=>?_
   rw [land_has]
   cases h2:hasB (rowOfE EM ops j o).w t with
   | false=>rfl
   | true =>
    obtain ⟨e,he,hb,rfl⟩:=row_waits.1 h2
    have:=hall e he hb
    rw [h.2] at this
    simp [this]
theorem apartF_ok {x y:Oper} {i j:Nat} (h:apartF (rowOfE EM ops i x) (rowOfE EM ops j y) = true):x.apart ops y = true:=by
 simp only [apartF,rowOfE,Bool.and_eq_true,Bool.not_eq_true'] at h
 obtain ⟨⟨h1,h2⟩,h3⟩:=h
 have dst:∀ (o:Oper) (d:Nat),o.dst = some d→hasB (rowOf ops o).d d = true:=fun o d hd=>by simp [rowOf,hd,hasB_bit]
 have look:∀ (o:Oper) (d:Nat),hasB (rowOf ops o).l d = (o.looksAt ops).contains d:=fun o d=>by simp only [rowOf];rw [hasB_mask]
 unfold Oper.apart
 simp only [Bool.and_eq_true]
 constructor
 ·cases hd:x.dst with
  | none=>rfl
  | some d =>
   have h4:=meetsB_false h1 (dst x d hd)
   rw [look] at h4
   have h5:=meetsB_false h2 (dst x d hd)
   simp only [h4,Bool.not_false,Bool.true_and,bne_iff_ne,ne_eq]
   intro hy
   rw [dst y d hy] at h5;cases h5
 ·cases hd:y.dst with
  | none=>rfl
  | some d =>
   have h4:=meetsB_false h3 (dst y d hd)
   rw [look] at h4
   simp only [h4,Bool.not_false]
theorem kind_pure (i:Nat) (o:Oper):meetsB (rowOfE EM ops i o).k 1 = pureOp o.op:=by
 simp only [rowOfE,rowOf]
 cases hasB EM i <;> cases pureOp o.op <;> cases loadOp o.op <;> cases extOp o.op <;> rfl
theorem kind_ext (i:Nat) (o:Oper):meetsB (rowOfE EM ops i o).k 4 = (extOp o.op || hasB EM i):=by
 simp only [rowOfE,rowOf]
 cases hasB EM i <;> cases pureOp o.op <;> cases loadOp o.op <;> cases extOp o.op <;> rfl
theorem kind_first (i:Nat) (o:Oper):meetsB (rowOfE EM ops i o).k 3 = (pureOp o.op || loadOp o.op):=by
 simp only [rowOfE,rowOf]
 cases hasB EM i <;> cases pureOp o.op <;> cases loadOp o.op <;> cases extOp o.op <;> rfl
theorem freeF_at {m i D:Nat} {x:Rw}:∀ (T:List Rw) (j0:Nat),freeF m i x D T j0 = true→∀ k r,T[k]? = some r →
  (bif Nat.beq (j0 + k) i then true else bif hasB D (j0 + k) then !hasB m (j0 + k) && meetsB r.w D else hasB m (j0 + k) || (apartF x r && (meetsB x.k 1 || meetsB r.k 4))) = true
 | [],_,_,k,r,h=>by simp at h
 | r0 :: T,j0,h,k,r,hk=>by
  simp only [freeF,Bool.and_eq_true] at h
  cases k with
  | zero=>simp only [List.getElem?_cons_zero,Option.some.injEq] at hk;subst hk;simpa using h.1
  | succ k =>
   have:=freeF_at T (j0 + 1) h.2 k r (by simpa using hk)
   rw [show j0 + 1 + k = j0 + (k + 1) by omega] at this
   exact this
theorem freeF_ok (hT:RowsAt EM ops T) {listed:Array Bool} {m i D:Nat} (h:Lst ops listed m) {o:Oper} (hDi:∀ j,hasB D j = true→j < ops.size)
  (hf:freeF m i (rowOfE EM ops i o) D T 0 = true):FreeP ops (exts EM ops) listed i (fun j=>hasB D j && !Nat.beq j i) o:=by
 have key:∀ j oj,ops[j]? = some oj→_:=fun j oj hj=>freeF_at T 0 hf j (rowOfE EM ops j oj) (by rw [row_at hT,hj];rfl)
 refine ⟨fun j oj hj hD=>?_,fun j hD=>?_,fun j oj hj hne hun hD=>?_⟩
 ·simp only [Bool.and_eq_true,Bool.not_eq_true'] at hD
  have:=key j oj hj
  simp only [Nat.zero_add,hD.2,cond_false,hD.1,cond_true,Bool.and_eq_true] at this
  obtain ⟨t,h1,h2⟩:=meetsB_true.1 this.2
  obtain ⟨e,he,hb,rfl⟩:=row_waits.1 h1
  refine ⟨e,he,hb,?_⟩
  by_cases hei:e.on = i
  ·exact .inl hei
  ·exact .inr (by simp [h2,hei])
 ·simp only [Bool.and_eq_true,Bool.not_eq_true'] at hD
  have hlt:=hDi j hD.1
  have:=key j _ (Array.getElem?_eq_getElem hlt)
  simp only [Nat.zero_add,hD.2,cond_false,hD.1,cond_true,Bool.and_eq_true,Bool.not_eq_true'] at this
  rw [h.2];exact this.1
 ·have:=key j oj hj
  have hji:Nat.beq j i = false:=by simpa using hne
  simp only [hji,Bool.not_false,Bool.and_true] at hD
  rw [h.getD_true hj] at hun
  simp only [Nat.zero_add,hji,hD,cond_false,hun,Bool.false_or,Bool.and_eq_true,Bool.or_eq_true,kind_pure,kind_ext] at this
  refine ⟨apartF_ok this.1,this.2.imp id fun h'=>?_⟩
  simp only [exts,hj,Option.any_some,Bool.or_eq_true]
  exact h'
theorem afterF_lt {n:Nat}:∀ (T:List Rw) (j D:Nat),j + T.length≤n→(∀ k,hasB D k = true→k < n)→∀ k,hasB (afterF T j D) k = true→k < n
 | [],_,_,_,h=>h
 | r :: T,j,D,hl,h=>by
  simp only [afterF,strictN_eq,List.length_cons] at *
  refine afterF_lt T (j + 1) _ (by omega) fun k hk=>?_
  cases hm:meetsB r.w D with
  | false=>rw [hm] at hk;exact h k hk
  | true =>
   rw [hm,cond_true,hasB_lor,hasB_bit] at hk
   simp only [Bool.or_eq_true,decide_eq_true_eq] at hk
   rcases hk with hk | hk
   ·exact h k hk
   ·omega
theorem planF_ok (hT:RowsAt EM ops T):∀ (p:Plan) (listed:Array Bool) (m:Nat),Lst ops listed m→(∀ i∈p.alts,i < ops.size)→planF T p m = true→PlanOk ops (exts EM ops) p listed:=by
 have hTl:T.length = ops.size:=hT.1
 have hlt:∀ {m i:Nat},readyF T m i = true→i < ops.size:=fun {m i} h=>by
  unfold readyF at h
  cases hi:T[i]? with
  | none=>rw [hi] at h;cases h
  | some r=>have:=(List.getElem?_eq_some_iff.1 hi).1;omega
 intro p
 induction p with
 | done =>
  intro listed m h _ hp
  simp only [planF,List.all_eq_true,List.mem_range,Bool.not_eq_true'] at hp
  refine List.eq_nil_iff_forall_not_mem.2 fun j hj=>?_
  have h1:=(readyF_iff hT h).2 hj
  have h2:=hp j (by rw [hTl];exact hlt h1)
  rw [h1] at h2;cases h2
 | nil=>intros;trivial
 | take i p ih =>
  intro listed m h _ hp
  simp only [planF,Bool.and_eq_true,strictN_eq] at hp
  obtain ⟨⟨⟨h1,h2⟩,h3⟩,h4⟩:=hp
  have hi:=hlt h1
  have ho:ops[i]? = some ops[i]:=Array.getElem?_eq_getElem hi
  rw [row_at hT,ho] at h2
  simp only [Option.map_some,Bool.and_eq_true,kind_first] at h2
  refine ⟨(readyF_iff hT h).1 h1,⟨_,ho,h2.1,_,freeF_ok hT h (afterF_lt T 0 _ (by omega) fun k hk=>?_) h2.2⟩,h3,ih _ _ (h.set hi) (fun j hj=>?_) h4⟩
  ·rw [hasB_bit] at hk;simp only [decide_eq_true_eq] at hk;omega
  ·cases p <;> simp [Plan.alts,Plan.isMain] at hj h3
 | fork l ih =>
  intro listed m h _ hp
  simp only [planF,Bool.and_eq_true,List.any_eq_true,List.all_eq_true,List.mem_range,Bool.or_eq_true,Bool.not_eq_true',nat_beq,decide_eq_true_eq] at hp
  obtain ⟨⟨⟨h0,j,h1,h2⟩,h3⟩,h4⟩:=hp
  refine ⟨fun hn=>?_,fun i hi=>?_,ih listed m h (fun i hi=>by have:=h0 i hi;simp only [nat_blt,decide_eq_true_eq] at this;omega) h4⟩
  ·have:=(readyF_iff hT h).1 h2
   rw [hn] at this;cases this
  ·have h5:=(readyF_iff hT h).2 hi
   rcases h3 i (by rw [hTl];exact hlt h5) with h6 | ⟨k,h6,rfl⟩
   ·rw [h5] at h6;cases h6
   ·exact h6
 | alt i p r ihp ihr =>
  intro listed m h ha hp
  simp only [planF,Bool.and_eq_true,strictN_eq] at hp
  obtain ⟨⟨h1,h2⟩,h3⟩:=hp
  refine ⟨h1,ihp _ _ (h.set (ha i List.mem_cons_self)) (fun j hj=>?_) h2,ihr _ _ h (fun j hj=>ha j (List.mem_cons_of_mem _ hj)) h3⟩
  cases p <;> simp [Plan.alts,Plan.isMain] at hj h1
end
def drawOk (EM nt:Nat) (ops:List Oper) (gs:List (Nat×Tmp)) (T:List Rw) (p:Plan):Bool :=
 dstsOk nt ops && gsOk ops gs && Region.noSelect ops.toArray && p.isMain && Nat.ble p.depth ops.length && planF (addE EM T 0) p 0
inductive OP where
 | done
 | yes
 | run (l:List Nat) (p:OP)
 | both (p q:OP)
 | chk (i:Nat) (p:OP)
def OP.push (i:Nat):OP→OP
 | .run l q=>.run (i :: l) q
 | q=>.run [i] q
def OP.mark (EM i:Nat) (p:OP):OP:=bif Nat.testBit EM i then .chk i p else p
def opOf (EM:Nat):Plan→OP
 | .done=>.done
 | .take i p=>(opOf EM p).push i
 | .fork l=>opOf EM l
 | .alt i p .nil=>OP.mark EM i ((opOf EM p).push i)
 | .alt i p r=>.both (OP.mark EM i ((opOf EM p).push i)) (opOf EM r)
 | .nil=>.yes
def pickOps (ops:List Oper):List Nat→List (Nat×Option Oper)
 | []=>[]
 | i :: l=>(i,ops[i]?) :: pickOps ops l
def vcOrd (c:Cx) (τ:Tab) (gs:List (Nat×Tmp)):List (Nat×Option Oper)→St→(St→Prop)→Prop
 | [],st,K=>K st
 | (i,some o) :: r,st,K=>match guardOf gs st o.guard with
  | some true=>opVc c τ o st fun av st'=>putVc gs i o.dst av st' fun st=>vcOrd c τ gs r st K
  | some false=>vcOrd c τ gs r (st.put o.dst (.tup .nil)) K
  | none=>False
 | (_,none) :: _,_,_=>False
def freshVc (τ:Tab) (st:St):Option Oper→Prop
 | some o=>o.guard = none∧freshOk τ st o
 | none=>True
def opsVc (c:Cx) (τ:Tab) (gs:List (Nat×Tmp)) (ops:List Oper):OP→St→(St→Prop)→Prop
 | .done,st,K=>K st
 | .yes,_,_=>True
 | .run l p,st,K=>vcOrd c τ gs (pickOps ops l) st fun st=>opsVc c τ gs ops p st K
 | .both p q,st,K=>opsVc c τ gs ops p st K∧opsVc c τ gs ops q st K
 | .chk i p,st,K=>freshVc τ st (ops[i]?)∧opsVc c τ gs ops p st K
section
variable {c:Cx} {τ:Tab} {gs:List (Nat×Tmp)} {ops:List Oper}
theorem step_of_ord {i:Nat} {l:List Nat} {st:St} {K:St→Prop} (h:vcOrd c τ gs (pickOps ops (i :: l)) st K):stepVc c τ gs ops i st fun st=>vcOrd c τ gs (pickOps ops l) st K:=by
 unfold stepVc bindK
 simp only [pickOps] at h
 cases ho:ops[i]? with
 | none=>rw [ho] at h;exact h.elim
 | some o =>
  rw [ho] at h
  unfold vcOrd at h
  simp only
  cases hg:o.guard with
  | none=>rw [hg] at h;exact h
  | some g =>
   rw [hg] at h
   simp only at h ⊢
   cases hb:guardOf gs st (some g) with
   | none=>rw [hb] at h;exact h.elim
   | some b=>rw [hb] at h;cases b <;> exact h
theorem opsVc_push {i:Nat} {p:OP} {st:St} {K:St→Prop} (h:opsVc c τ gs ops (p.push i) st K):stepVc c τ gs ops i st fun st=>opsVc c τ gs ops p st K:=by
 cases p with
 | run l q=>exact step_of_ord h
 | done=>exact step_of_ord (l:=[]) h
 | yes=>exact step_of_ord (l:=[]) h
 | both p q=>exact step_of_ord (l:=[]) h
 | chk j p=>exact step_of_ord (l:=[]) h
theorem opsVc_mark {EM i:Nat} {p:OP} {st:St} {K:St→Prop} (h:opsVc c τ gs ops (OP.mark EM i p) st K):freshAt EM τ ops i st∧opsVc c τ gs ops p st K:=by
 unfold OP.mark at h
 unfold freshAt
 cases he:Nat.testBit EM i with
 | false=>rw [he] at h;exact ⟨fun h'=>(by cases h'),h⟩
 | true =>
  rw [he] at h
  exact ⟨fun _ o ho=>(by have h1:=h.1;rw [ho] at h1;exact h1),h.2⟩
theorem opsVc_alt {EM i:Nat} {p r:Plan} {st:St} {K:St→Prop} (h:opsVc c τ gs ops (opOf EM (.alt i p r)) st K):freshAt EM τ ops i st∧(stepVc c τ gs ops i st fun st=>opsVc c τ gs ops (opOf EM p) st K)∧opsVc c τ gs ops (opOf EM r) st K:=by
 cases r with
 | nil=>obtain ⟨h1,h2⟩:=opsVc_mark h;exact ⟨h1,opsVc_push h2,trivial⟩
 | _=>obtain ⟨h1,h2⟩:=opsVc_mark h.1;exact ⟨h1,opsVc_push h2,h.2⟩
theorem VC.drawnE {P:Program} {nt:Nat} {w0:World} {I0:Nat→Prop} {F0:List G} {τ:Tab} (hτ:Tab.Ok P τ) (hm:P.follows .mixedOrders = true) {id:Nat} {ops:List Oper} {K:Exit→St→Prop} {st:St} (EM:Nat) (gs:List (Nat×Tmp)) (T:List Rw) (p:Plan) (o:OP)
  (hT:ops.map (rowOf ops.toArray) = T) (hok:drawOk EM nt ops gs T p = true) (ho:opOf EM p = o) (h:opsVc ⟨P,nt,w0,I0,F0⟩ τ gs ops o st (K .normal)):VC ⟨P,nt,w0,I0,F0⟩ (.region id ops.toArray true) K st:=fun a w hr=>by
 subst ho
 simp only [drawOk,Bool.and_eq_true] at hok
 obtain ⟨⟨⟨⟨⟨h1,h2⟩,h3⟩,h4⟩,h5⟩,h6⟩:=hok
 have hr':Rel ⟨P,nt,w0,I0,F0⟩ st a { w with drawn:=w.drawn + 1 }:=hr.quiet rfl rfl rfl rfl
 have hall:=(plan_ok (Q:=fun e a w=>e = .normal∧∃ st',K .normal st'∧Rel ⟨P,nt,w0,I0,F0⟩ st' a w) (EM:=EM) (PV:=fun p st=>opsVc ⟨P,nt,w0,I0,F0⟩ τ gs ops (opOf EM p) st (K .normal)) hτ h2 h1 h3 (fun st a w g1 g2=>⟨rfl,st,g1,g2⟩)
  (fun _ _ _ h=>opsVc_push h) (fun _ _ h=>h) (fun _ _ _ _ h=>opsVc_alt h) (fun _ _ _ _ _ h=>by cases h.1) p).1
  (Array.replicate ops.length false) ops.length st a _ h4 (Nat.le_of_ble_eq_true h5) (planF_ok (rowsAt EM hT) p _ 0 ⟨by simp,fun j=>by rw [hasB_zero];simp [Array.getElem?_replicate];split <;> rfl⟩ (fun i hi=>by cases p <;> simp [Plan.alts,Plan.isMain] at hi h4) h6) h hr'
 have hreg:(Code.region id ops.toArray true).wp P (fun e a w=>e = .normal∧∃ st',K .normal st'∧Rel ⟨P,nt,w0,I0,F0⟩ st' a w) a w:=wp_region_any hm (by simpa using wpAny_of_T _ _ _ _ hall)
 refine wp_mono hreg fun e a w hq=>?_
 obtain ⟨he,st',g1,g2⟩:=hq
 subst he
 exact ⟨st',g1,g2⟩
theorem VC.drawn {P:Program} {nt:Nat} {w0:World} {I0:Nat→Prop} {F0:List G} {τ:Tab} (hτ:Tab.Ok P τ) (hm:P.follows .mixedOrders = true) {id:Nat} {ops:List Oper} {K:Exit→St→Prop} {st:St} (gs:List (Nat×Tmp)) (T:List Rw) (p:Plan) (o:OP)
  (hT:ops.map (rowOf ops.toArray) = T) (hok:drawOk 0 nt ops gs T p = true) (ho:opOf 0 p = o) (h:opsVc ⟨P,nt,w0,I0,F0⟩ τ gs ops o st (K .normal)):VC ⟨P,nt,w0,I0,F0⟩ (.region id ops.toArray true) K st :=
 VC.drawnE hτ hm 0 gs T p o hT hok ho h
theorem opsVc_chk {i:Nat} {p:OP} {st:St} {K:St→Prop}:opsVc c τ gs ops (.chk i p) st K = (freshVc τ st (ops[i]?)∧opsVc c τ gs ops p st K):=by rw [opsVc]
theorem freshVc_append {st:St} {dst:Option Tmp} {ty:TypeId} {pos:String} {after:Array Edge} {x y:Operand} {t u:TypeId}:freshVc τ st (some ⟨dst,.call ⟨.builtin .append,#[x,y],#[t,u]⟩,ty,pos,after,none⟩) = (capless (st.evT τ t x) = true):=by simp [freshVc,freshOk]
theorem freshVc_call {st:St} {dst:Option Tmp} {ty:TypeId} {pos:String} {after:Array Edge} {f:Operand} {xs:List Operand} {ts:List TypeId}:freshVc τ st (some ⟨dst,.call ⟨.value f,xs.toArray,ts.toArray⟩,ty,pos,after,none⟩) = (fnStill (argsOf τ st xs ts) (st.ev f) = true):=by simp [freshVc,freshOk,callStill]
theorem opsVc_run {l:List Nat} {p:OP} {st:St} {K:St→Prop}:opsVc c τ gs ops (.run l p) st K = vcOrd c τ gs (pickOps ops l) st fun st=>opsVc c τ gs ops p st K:=by rw [opsVc]
theorem opsVc_both {p q:OP} {st:St} {K:St→Prop}:opsVc c τ gs ops (.both p q) st K = (opsVc c τ gs ops p st K∧opsVc c τ gs ops q st K):=by rw [opsVc]
theorem opsVc_done {st:St} {K:St→Prop}:opsVc c τ gs ops .done st K = K st:=by rw [opsVc]
theorem opsVc_yes {st:St} {K:St→Prop}:opsVc c τ gs ops .yes st K = True:=by rw [opsVc]
end
@[congr] theorem vcOrd_congr {c:Cx} {τ:Tab} {gs:List (Nat×Tmp)} {l:List (Nat×Option Oper)} {st st':St} {K:St→Prop} (h:tick st = st'):vcOrd c τ gs l st K = vcOrd c τ gs l st' K:=by rw [tick_eq] at h;rw [h]
section
variable {c:Cx} {τ:Tab} {gs:List (Nat×Tmp)} {st:St} {K:St→Prop} {i:Nat} {dst:Option Tmp} {op:Op} {ty:TypeId} {pos:String} {after:Array Edge} {g:Nat×Bool} {r:List (Nat×Option Oper)}
theorem ord_nil:vcOrd c τ gs [] st K = K st:=rfl
theorem ord_cons:vcOrd c τ gs ((i,some ⟨dst,op,ty,pos,after,none⟩) :: r) st K = opVc c τ ⟨dst,op,ty,pos,after,none⟩ st fun av st'=>putVc gs i dst av st' fun st=>vcOrd c τ gs r st K:=rfl
theorem ord_guard:vcOrd c τ gs ((i,some ⟨dst,op,ty,pos,after,some g⟩) :: r) st K = bindK (guardOf gs st (some g)) fun b=>match b with
  | some true=>opVc c τ ⟨dst,op,ty,pos,after,some g⟩ st fun av st'=>putVc gs i dst av st' fun st=>vcOrd c τ gs r st K
  | some false=>vcOrd c τ gs r (st.put dst (.tup .nil)) K
  | none=>False:=rfl
end
end Go.Vc

/- Steps that are no steps of the machine. -/
namespace Go.Vc
set_option linter.all false
open T (hdr blk)
def covers (κ':List (Nat×Path)) (e:Nat×Path):Bool:=κ'.any fun x=>Nat.beq x.1 e.1 && mpre x.2 e.2
theorem mpre_trans:∀ {p q r:Path},mpre p q = true→mpre q r = true→mpre p r = true
 | [],_,_,_,_=>by simp [mpre]
 | .f a :: p,.f b :: q,.f c :: r,h1,h2=>by
  simp only [mpre,Bool.and_eq_true,beq_iff_eq] at *
  exact ⟨h1.1.trans h2.1,mpre_trans h1.2 h2.2⟩
 | .i a :: p,.i b :: q,.i c :: r,h1,h2=>by simp only [mpre] at *;exact mpre_trans h1 h2
 | .d :: p,.d :: q,.d :: r,h1,h2=>by simp only [mpre] at *;exact mpre_trans h1 h2
 | .f _ :: _,.i _ :: _,_,h1,_=>by simp [mpre] at h1
 | .f _ :: _,.d :: _,_,h1,_=>by simp [mpre] at h1
 | .f _ :: _,[],_,h1,_=>by simp [mpre] at h1
 | .i _ :: _,.f _ :: _,_,h1,_=>by simp [mpre] at h1
 | .i _ :: _,.d :: _,_,h1,_=>by simp [mpre] at h1
 | .i _ :: _,[],_,h1,_=>by simp [mpre] at h1
 | .d :: _,.f _ :: _,_,h1,_=>by simp [mpre] at h1
 | .d :: _,.i _ :: _,_,h1,_=>by simp [mpre] at h1
 | .d :: _,[],_,h1,_=>by simp [mpre] at h1
 | .f _ :: _,.f _ :: _,[],_,h2=>by simp [mpre] at h2
 | .f _ :: _,.f _ :: _,.i _ :: _,_,h2=>by simp [mpre] at h2
 | .f _ :: _,.f _ :: _,.d :: _,_,h2=>by simp [mpre] at h2
 | .i _ :: _,.i _ :: _,[],_,h2=>by simp [mpre] at h2
 | .i _ :: _,.i _ :: _,.f _ :: _,_,h2=>by simp [mpre] at h2
 | .i _ :: _,.i _ :: _,.d :: _,_,h2=>by simp [mpre] at h2
 | .d :: _,.d :: _,[],_,h2=>by simp [mpre] at h2
 | .d :: _,.d :: _,.f _ :: _,_,h2=>by simp [mpre] at h2
 | .d :: _,.d :: _,.i _ :: _,_,h2=>by simp [mpre] at h2
theorem mpre_len:∀ {p q:Path},mpre p q = true→p.length≤q.length
 | [],_,_=>by simp
 | .f a :: p,.f b :: q,h=>by simp only [mpre,Bool.and_eq_true] at h;have:=mpre_len h.2;simp;omega
 | .i a :: p,.i b :: q,h=>by simp only [mpre] at h;have:=mpre_len h;simp;omega
 | .d :: p,.d :: q,h=>by simp only [mpre] at h;have:=mpre_len h;simp;omega
 | .f _ :: _,.i _ :: _,h1=>by simp [mpre] at h1
 | .f _ :: _,.d :: _,h1=>by simp [mpre] at h1
 | .f _ :: _,[],h1=>by simp [mpre] at h1
 | .i _ :: _,.f _ :: _,h1=>by simp [mpre] at h1
 | .i _ :: _,.d :: _,h1=>by simp [mpre] at h1
 | .i _ :: _,[],h1=>by simp [mpre] at h1
 | .d :: _,.f _ :: _,h1=>by simp [mpre] at h1
 | .d :: _,.i _ :: _,h1=>by simp [mpre] at h1
 | .d :: _,[],h1=>by simp [mpre] at h1
theorem dead_covers {κ κ':List (Nat×Path)} (h:κ.all (covers κ') = true) {k:Nat} {q:Path} {s:Bool} (hd:dead κ' k q s = false):dead κ k q s = false:=by
 unfold dead at *
 rw [List.any_eq_false] at *
 rintro ⟨k0,q0⟩ hm hx
 simp only [Bool.and_eq_true,beq_iff_eq] at hx
 obtain ⟨rfl,h1,h2⟩:=hx
 have:=List.all_eq_true.1 h _ hm
 simp only [covers,List.any_eq_true,Bool.and_eq_true,Nat.beq_eq] at this
 obtain ⟨⟨k1,q1⟩,hm1,rfl,h3⟩:=this
 refine hd (k1,q1) hm1 ?_
 simp only [Bool.and_eq_true,beq_self_eq_true,true_and,Bool.or_eq_true,decide_eq_true_eq] at h2 ⊢
 refine ⟨mpre_trans h3 h1,h2.imp id fun h=>?_⟩
 have h4:q1.length≤q0.length:=mpre_len h3
 have h5:q0.length < q.length:=h
 show q1.length < q.length
 omega
theorem VC.widen {c:Cx} {code:Code} {K:Exit→St→Prop} {st:St} (κ':List (Nat×Path)) (h:st.κ.all (covers κ') = true) (hv:VC c code K { st with κ:=κ' }):VC c code K st :=
 VC.ghost (st':={ st with κ:=κ' }) (fun _ _ ⟨h1,h2,I,F,hi,he,hp⟩=>⟨h1,h2,I,F,hi.rekill (κ':=κ') (fun _ _ _ _ hd=>dead_covers h hd),he,hp⟩) hv
def stripP:Path→Path→Option Path
 | [],p=>some p
 | a :: q,b :: p=>if a = b then stripP q p else none
 | _ :: _,[]=>none
theorem stripP_eq:∀ {q p r:Path},stripP q p = some r→p = q ++ r
 | [],p,r,h=>by simpa [stripP] using h
 | a :: q,b :: p,r,h=>by
  simp only [stripP] at h
  split at h
  ·rename_i e;rw [e,stripP_eq h];rfl
  ·cases h
 | _ :: _,[],_,h=>by cases h
def AV.lift (k:Nat) (q:Path) (N:Nat):AV→AV
 | .ptr k' p=>if k' = k then match stripP q p with
   | some (s :: r)=>.ptr N (s :: r)
   | _=>(AV.ptr k' p).kill [(k,q)]
  else .ptr k' p
 | .sub k' p lo n ex=>if k' = k then match stripP q p with
   | some r=>.sub N r lo n ex
   | none=>(AV.sub k' p lo n ex).kill [(k,q)]
  else .sub k' p lo n ex
 | .mp k' p=>if k' = k then match stripP q p with
   | some r=>.mp N r
   | none=>(AV.mp k' p).kill [(k,q)]
  else .mp k' p
 | .cons a t=>.cons (a.lift k q N) (t.lift k q N)
 | .agg s=>.agg (s.lift k q N)
 | .tup s=>.tup (s.lift k q N)
 | .fn f s=>.fn f (s.lift k q N)
 | a=>a
def nodeAV (N:Nat):D→AV
 | .sl _ _ _ s=>.sub N [] 0 s.len false
 | .box _ _ _=>.ptr N [.d]
 | .map _ _ _=>.mp N []
 | _=>.bad
def liftPl (k:Nat) (q:Path) (N:Nat):List (Nat×Path×AV)→List (Nat×Path×AV)
 | []=>[]
 | (k',p,av) :: l=>if k' = k then match stripP q p with
   | some r=>(N,r,av.lift k q N) :: liftPl k q N l
   | none=>bif dead [(k,q)] k' p true then liftPl k q N l else (k',p,av.lift k q N) :: liftPl k q N l
  else (k',p,av.lift k q N) :: liftPl k q N l
def St.lift (nb:Nat) (st:St) (k:Nat) (q:Path):St where
 env:=st.env.map fun e=>(e.1,e.2.lift k q st.X.length)
 X:=st.X.set k ((st.tree k).set q (.junk ())) ++ [(st.tree k).at_ q]
 κ:=(bif Nat.ble nb k then [] else [(k,q)]) ++ st.κ
 pl:=(k,q,nodeAV st.X.length ((st.tree k).at_ q)) :: liftPl k q st.X.length st.pl
theorem lift_rl {h:Array Obj} {I:Nat→Prop} {F F':List G} {k N:Nat} {q:Path} {g:G} (hg:F[k]? = some g) (hok:g.okp q = true) (hh:isHead (g.at_ q) = true) (hN:F'[N]? = some (g.at_ q))
  (hkeep:∀ av m vs,av.dies [(k,q)] = false→Rl h I F av m vs→Rl h I F' av m vs) (av:AV):∀ {m:Bool} {vs:List Value},Rl h I F av m vs→Rl h I F' (av.lift k q N) m vs:=by
 have bad1:∀ {m:Bool} {v:Value},v.oneCell' = true→Rl h I F' .bad m [v]:=fun {m v} hv=>by cases m;exact ⟨v,rfl,hv⟩;exact ⟨v,rfl⟩
 have killed:∀ {av:AV} {m:Bool} {v:Value},v.oneCell' = true→Rl h I F av m [v]→Rl h I F' (av.kill [(k,q)]) m [v]:=fun {av m v} hv H=>by
  unfold AV.kill
  cases hd:av.dies [(k,q)] with
  | true=>exact H.rip (.inr hv)
  | false=>exact hkeep _ _ _ hd H
 have other:∀ (k':Nat) (p:Path) (s:Bool),k'≠k→dead [(k,q)] k' p s = false:=fun k' p s hne=>by
  have:(k' == k) = false:=by simpa using hne
  simp [dead,this]
 induction av with
 | ptr k' p =>
  intro m vs H
  simp only [AV.lift]
  have one:∃ v,vs = [v]∧v.oneCell' = true:=by cases m <;> (obtain ⟨b,o,_,rfl⟩:=H;exact ⟨_,rfl,rfl⟩)
  obtain ⟨v,rfl,hv⟩:=one
  split
  ·rename_i hk
   subst hk
   split
   ·rename_i s r hs
    have hp:=stripP_eq hs
    subst hp
    cases m <;>
    ·obtain ⟨b,o,h1,h2⟩:=H
     refine ⟨b,o,?_,h2⟩
     unfold locF at *
     rw [hg] at h1
     rw [hN]
     simp only [Option.bind_some] at h1 ⊢
     rw [←T.loc_below hok hh (by simp)];exact h1
   ·exact killed hv H
  ·rename_i hk
   exact hkeep _ _ _ (other _ _ _ hk) H
 | sub k' p lo n ex =>
  intro m vs H
  simp only [AV.lift]
  have one:∃ v,vs = [v]∧v.oneCell' = true:=by
   cases m <;> (obtain ⟨own,a,z,len,v,_,rfl,A,c,rfl,_⟩:=H;exact ⟨_,rfl,rfl⟩)
  obtain ⟨v,rfl,hv⟩:=one
  split
  ·rename_i hk
   subst hk
   split
   ·rename_i r hs
    have hp:=stripP_eq hs
    subst hp
    cases m <;>
    ·obtain ⟨own,a,z,len,v,h1,h2⟩:=H
     refine ⟨own,a,z,len,v,?_,h2⟩
     unfold hdrF at *
     rw [hg] at h1
     rw [hN]
     simpa only [Option.bind_some,T.at_append] using h1
   ·exact killed hv H
  ·rename_i hk
   exact hkeep _ _ _ (other _ _ _ hk) H
 | mp k' p =>
  intro m vs H
  simp only [AV.lift]
  have one:∃ v,vs = [v]∧v.oneCell' = true:=by cases m <;> (obtain ⟨own,r,z,len,_,rfl⟩:=H;exact ⟨_,rfl,rfl⟩)
  obtain ⟨v,rfl,hv⟩:=one
  split
  ·rename_i hk
   subst hk
   split
   ·rename_i r hs
    have hp:=stripP_eq hs
    subst hp
    cases m <;>
    ·obtain ⟨own,a,z,len,h1,h2⟩:=H
     refine ⟨own,a,z,len,?_,h2⟩
     unfold hdrF at *
     rw [hg] at h1
     rw [hN]
     simpa only [Option.bind_some,T.at_append] using h1
   ·exact killed hv H
  ·rename_i hk
   exact hkeep _ _ _ (other _ _ _ hk) H
 | cons a t iha iht=>intro m vs H;cases m <;> (obtain ⟨v1,v2,h1,h2,h3⟩:=H;exact ⟨v1,v2,h1,iha h2,iht h3⟩)
 | agg s ih =>
  intro m vs H
  cases m
  ·exact ih (m:=false) H
  ·obtain ⟨cs,h1,h2⟩:=H;exact ⟨cs,h1,ih h2⟩
 | tup s ih =>
  intro m vs H
  cases m
  ·exact H.elim
  ·obtain ⟨cs,h1,h2⟩:=H;exact ⟨cs,h1,ih h2⟩
 | fn f s ih=>intro m vs H;cases m <;> (obtain ⟨cs,h1,h2⟩:=H;exact ⟨cs,h1,ih h2⟩)
 | val v=>intro m vs H;exact hkeep _ _ _ rfl H
 | bad=>intro m vs H;exact hkeep _ _ _ rfl H
 | nils z=>intro m vs H;exact hkeep _ _ _ rfl H
 | cut z=>intro m vs H;exact hkeep _ _ _ rfl H
 | imm z s ex=>intro m vs H;exact hkeep _ _ _ rfl H
 | iptr d=>intro m vs H;exact hkeep _ _ _ rfl H
 | nil=>intro m vs H;exact hkeep _ _ _ rfl H
theorem liftPl_ok {w:World} {I:Nat→Prop} {F F':List G} {k N:Nat} {q:Path} {g:G} (hg:F[k]? = some g) (hok:g.okp q = true) (hh:isHead (g.at_ q) = true) (hN:F'[N]? = some (g.at_ q))
  (hkeep:∀ av m vs,av.dies [(k,q)] = false→Rl w.heap I F av m vs→Rl w.heap I F' av m vs) {v:Value} (hk:F'[k]? = some (g.set q (.junk v))) (ho:∀ j f,F[j]? = some f→j≠k→F'[j]? = some f) :
  ∀ {pl:List (Nat×Path×AV)},PlOk pl w I F→PlOk (liftPl k q N pl) w I F':=by
 intro pl
 induction pl with
 | nil=>intro _ k p av hm;cases hm
 | cons x l ih =>
  intro H
  have hl:PlOk l w I F:=fun k p av hm=>H k p av (List.mem_cons_of_mem _ hm)
  have ihl:=ih hl
  obtain ⟨k',p,av⟩:=x
  obtain ⟨f,u,f1,f2,f3⟩:=H k' p av List.mem_cons_self
  have hav:=lift_rl hg hok hh hN hkeep av f3
  have cons:∀ {x:Nat×Path×AV},(∃ g v,F'[x.1]? = some g∧g.at_ x.2.1 = .junk v∧Rl w.heap I F' x.2.2 false [v])→PlOk (x :: liftPl k q N l) w I F':=fun {x} hx k p av hm=>by
   rcases List.mem_cons.1 hm with rfl | hm
   ·exact hx
   ·exact ihl k p av hm
  simp only [liftPl]
  split
  ·rename_i e
   subst e
   rw [hg] at f1;cases f1
   split
   ·rename_i r hs
    have hp:=stripP_eq hs
    subst hp
    rw [T.at_append] at f2
    exact cons ⟨_,u,hN,f2,hav⟩
   ·cases hd:dead [(k',q)] k' p true with
    | true=>exact ihl
    | false=>exact cons ⟨_,u,hk,T.junk_set hok f2 (mpre_alive' hd),hav⟩
  ·rename_i e
   exact cons ⟨f,u,ho k' f f1 e,f2,hav⟩
theorem head_of_node {α:Type} {g:T α} (h:isNode g = true):isHead g = true:=by
 cases g <;> first | rfl | cases h
theorem Rel.lift {c:Cx} {st:St} {a:Act} {w:World} (h:Rel c st a w) {k:Nat} {q:Path} (hlen:k < st.X.length) (hok:(st.tree k).okp q = true) (hn:isNode ((st.tree k).at_ q) = true)
  (hne:T.noEntry true (st.tree k) q = true):Rel c (st.lift c.F0.length k q) a w:=by
 obtain ⟨h1,h2,I,F,hi,he,hp⟩:=id h
 obtain ⟨F',g1,g2,g3,g4,g6,g5⟩:=(h.detach hlen hok hn hne).2 I F hi he hp
 have hFl:F.length = st.X.length:=by rw [←hi.erase];simp
 obtain ⟨g,hg⟩:∃ g,F[k]? = some g:=⟨F[k]'(by omega),List.getElem?_eq_getElem (by omega)⟩
 obtain ⟨hN,v,hv,hv1,hk⟩:=g4 g hg
 have ht:=hi.tree hg
 have hok':=hok
 have hn':=hn
 rw [ht,T.okp_erase] at hok'
 rw [ht,←T.erase_at,isNode_erase] at hn'
 have hh:isHead (g.at_ q) = true:=head_of_node hn'
 have hH:=(hi.holds g (List.mem_of_getElem? hg)).at_ q
 refine ⟨h1,h2,I,F',g1,fun t=>?_,?_⟩
 ·have key:∀ e:Env,look (e.map fun e=>(e.1,e.2.lift k q st.X.length)) t = (look e t).lift k q st.X.length:=by
   intro e
   induction e with
   | nil=>rfl
   | cons x e ih =>
    obtain ⟨d,b⟩:=x
    simp only [List.map_cons,look]
    split
    ·rfl
    ·exact ih
  show Rl _ _ _ (look (st.env.map _) t) true _
  rw [key]
  exact lift_rl hg hok' hh hN g5 _ (he t)
 ·have hrest:=liftPl_ok hg hok' hh hN g5 hk g6 hp
  intro k' p av hm
  rcases List.mem_cons.1 hm with e | hm
  ·cases e
   refine ⟨_,v,hk,T.at_set_same hok',?_⟩
   rw [ht,←T.erase_at]
   cases hx:g.at_ q with
   | sl o a' z s =>
    rw [hx] at hv hH hN
    simp only [T.cells,List.cons.injEq,and_true] at hv
    subst hv
    refine ⟨o,a',z,s.len,a',?_,rfl,?_⟩
    ·simp [hdrF,hN,T.at_,hdr]
    ·simp only [T.erase,nodeAV,T.erase_len];exact Holds_sl_any hH (.inl (by rw [hx] at hn';cases o <;> simp [isNode] at hn' ⊢))
   | box o a' s =>
    rw [hx] at hv hH hN
    simp only [T.cells,List.cons.injEq,and_true] at hv
    subst hv
    obtain ⟨_,_,H3⟩:=hH
    split at H3
    ·rename_i x
     obtain ⟨e1,_⟩:=H3
     obtain ⟨b,o2,sp⟩:=x
     simp only at e1;subst e1
     exact ⟨b,o2,by simp [locF,hN,T.loc,T.headAt],rfl⟩
    ·exact H3.elim
   | map o a' s =>
    rw [hx] at hv hH hN
    simp only [T.cells,List.cons.injEq,and_true] at hv
    subst hv
    obtain ⟨_,_,H3⟩:=hH
    split at H3
    ·exact ⟨o,_,0,0,by simp [hdrF,hN,T.at_,hdr],rfl⟩
    ·exact H3.elim
   | _=>rw [hx] at hn';cases hn'
  ·exact hrest k' p av hm
theorem VC.lift {c:Cx} {code:Code} {K:Exit→St→Prop} {st:St} (k:Nat) (q:Path) (hlen:k < st.X.length) (hok:(st.tree k).okp q = true) (hn:isNode ((st.tree k).at_ q) = true)
  (hne:T.noEntry true (st.tree k) q = true) (h:VC c code K (st.lift c.F0.length k q)):VC c code K st :=
 VC.ghost (fun _ _ hr=>hr.lift hlen hok hn hne) h
theorem Stp.growBy {c:Cx} {X:List D} {κ:List (Nat×Path)} {w:World} {I:Nat→Prop} {F:List G} (hi:Inv c X κ w I F) {g:G} (hg:T.Holds w.heap I g) (ho:g.owned = []):Stp w w I I F (F ++ [g]) [] c.F0.length where
 holds:=fun g' hg'=>by
  rcases List.mem_append.1 hg' with h | h
  ·exact hi.holds g' h
  ·simp only [List.mem_singleton] at h;subst h;exact hg
 nodup:=by simpa [own,ho] using hi.nodup
 apart:=fun b hb=>hi.apart b (by simpa [own,ho] using hb)
 mine:=fun b hb=>.inl (by simpa [own,ho] using hb)
 lt:=fun b hb=>hi.lt b (by simpa [own,ho] using hb)
 ilt:=hi.ilt
 heap:=fun _ _ _=>rfl
 size:=Nat.le_refl _
 os:=rfl
 tape:=rfl
 output:=rfl
 imono:=fun _ h=>h
 inew:=fun _ h=>.inl h
 keep:=fun k g hg=>⟨g,by rw [List.getElem?_append_left (List.getElem?_eq_some_iff.1 hg).1];exact hg,fun _=>rfl,fun _ _=>rfl,fun _ _=>rfl,fun _ _ h _=>h⟩
def isEmptyAV:AV→Bool
 | .nils _=>true
 | .sub _ _ _ 0 true=>true
 | _=>false
def St.hold0 (st:St) (t:Tmp) (z:Nat):St:={ st with env:=(t,.sub st.X.length [] 0 0 false) :: st.env,X:=st.X ++ [.sl true () z .nil] }
theorem Rel.hold0 {c:Cx} {st:St} {a:Act} {w:World} (h:Rel c st a w) (t:Tmp) (z:Nat) (ht:isEmptyAV (look st.env t) = true):Rel c (st.hold0 t z) a w:=by
 obtain ⟨h1,h2,I,F,hi,he,hp⟩:=h
 have hv:=he t
 obtain ⟨A,hA,hsp⟩:∃ A,a.tmps.getD t undef = .slice A 0 0∧∀ x,A = some x→x.spot = none:=by
  unfold isEmptyAV at ht
  split at ht
  ·rename_i z0 hl
   rw [hl] at hv
   have hv:[a.tmps.getD t undef] = [.slice none 0 0]:=hv
   injection hv with hv _
   exact ⟨none,hv,fun x h=>by cases h⟩
  ·rename_i k q lo hl
   rw [hl] at hv
   obtain ⟨own,a0,z0,len,v,_,hv',A,c0,rfl,q1,q2,q3,q4,q5⟩:=hv
   injection hv' with hv' _
   have:=q4 rfl
   subst this
   refine ⟨A,hv',fun x hx=>?_⟩
   split at q5
   ·rw [q5.1] at hx;cases hx
   ·obtain ⟨y,hy,hs,_⟩:=q5
    rw [hy] at hx;cases hx;exact hs
   ·exact q5.elim
  ·cases ht
 have hg:T.Holds w.heap I (.sl true (.slice A 0 0) z .nil):=by
  cases A with
  | none=>exact ⟨trivial,trivial,(by intro h;cases h),rfl,rfl,rfl⟩
  | some x=>exact ⟨trivial,trivial,(by intro h;cases h),rfl,fun _=>hsp x rfl,rfl⟩
 have S:=Stp.growBy hi hg (by cases A <;> rfl)
 have hFl:F.length = st.X.length:=by rw [←hi.erase];simp
 refine ⟨h1,h2,I,F ++ [.sl true (.slice A 0 0) z .nil],?_,fun t'=>?_,?_⟩
 ·have:=hi.step S
  rw [List.map_append,hi.erase] at this
  simpa [St.hold0,T.erase] using this
 ·show Rl _ _ _ (look ((t,_) :: st.env) t') true _
  simp only [look]
  split
  ·rename_i e
   subst e
   rw [hA]
   refine ⟨true,.slice A 0 0,z,0,_,by simp [hdrF,←hFl,T.at_,hdr,T.len],rfl,A,0,rfl,by omega,by omega,by omega,fun _=>rfl,?_⟩
   cases A with
   | none=>exact ⟨rfl,rfl⟩
   | some x=>exact ⟨x,rfl,hsp x rfl,rfl,by omega,by omega,fun h=>by omega⟩
  ·have:=he.step hi S t'
   rw [AV.kill_nil'] at this
   exact this
 ·have:=hp.step hi S
  have hk:plKill [] st.pl = st.pl:=by
   unfold plKill
   rw [List.filter_eq_self]
   intro e _
   simp [dead,AV.dies_nil]
  rw [hk] at this
  exact this
theorem VC.hold0 {c:Cx} {code:Code} {K:Exit→St→Prop} {st:St} (t:Tmp) (z:Nat) (ht:isEmptyAV (look st.env t) = true) (h:VC c code K (st.hold0 t z)):VC c code K st :=
 VC.ghost (fun _ _ hr=>hr.hold0 t z ht) h
attribute [simp] isEmptyAV St.hold0
attribute [simp] covers stripP AV.lift nodeAV liftPl St.lift isNode isHead St.after back mapK AV.emb embK placesOk AV.okArg
end Go.Vc

/- More rules that 'simp' bears: calls, ghosts. -/
namespace Go.Vc
set_option linter.all false
@[simp] theorem mid_cons_zero {α:Type} (h t:T α) (n:Nat):(T.cons h t).mid 0 (n + 1) = .cons h (t.mid 0 n):=by cases t <;> simp [T.mid,T.drop,T.take]
@[simp] theorem mid_cons_succ {α:Type} (h t:T α) (lo n:Nat):(T.cons h t).mid (lo + 1) n = t.mid lo n:=by simp [T.mid,T.drop]
@[simp] theorem mid_nil {α:Type} (lo n:Nat):(T.nil:T α).mid lo n = .nil:=by cases lo <;> cases n <;> rfl
end Go.Vc

/- Conditions of runs of code: a stack of what is to run. What comes behind is one name, so that 'simp' can be kept out of it. -/
namespace Go.Vc
set_option linter.all false
def VS (c:Cx):List Code→(Exit→St→Prop)→St→Prop
 | [],K,st=>K .normal st
 | x :: l,K,st=>VC c x (thenK (VS c l K) K) st
def blockN (id:Nat) (N:St→Prop) (K:Exit→St→Prop):Exit→St→Prop
 | .normal,st=>N st
 | .exit j,st=>if j = id then N st else K (.exit j) st
 | e,st=>K e st
def loopN (nb:Nat) (J:Nat→St→Prop) (n:Nat) (K:Exit→St→Prop):Exit→St→Prop
 | .normal,st=>nextK nb J n st
 | e,st=>K e st
section
variable {c:Cx} {l:List Code} {K:Exit→St→Prop} {st:St}
theorem VS.nil (h:K .normal st):VS c [] K st:=h
theorem VS.seq {a b:Code} (h:VS c (a :: b :: l) K st):VS c (.seq a b :: l) K st :=
 VC.seq (VC.mono h fun e st' hk=>by
  cases e with
  | normal=>exact hk
  | _=>exact hk)
theorem VS.skip (h:VS c l K st):VS c (.skip :: l) K st:=VC.skip h
theorem VS.ret (h:K .ret st):VS c (.ret :: l) K st:=VC.ret h
theorem VS.exit {i:Nat} (h:K (.exit i) st):VS c (.exit i :: l) K st:=VC.exit h
theorem VS.region {τ:Tab} (hτ:Tab.Ok c.P τ) {id:Nat} {ops:List Oper} (gs:List (Nat×Tmp)) (hd:regOk c.nt ops gs = true) (h:vcOps c τ gs ops 0 st (VS c l K)):VS c (.region id ops.toArray false :: l) K st :=
 VC.region hτ gs hd h
theorem VS.drawn {P:Program} {nt:Nat} {w0:World} {I0:Nat→Prop} {F0:List G} {τ:Tab} (hτ:Tab.Ok P τ) (hm:P.follows .mixedOrders = true) {id:Nat} {ops:List Oper} (gs:List (Nat×Tmp)) (T:List Rw) (p:Plan) (o:OP)
  (hT:ops.map (rowOf ops.toArray) = T) (hok:drawOk 0 nt ops gs T p = true) (ho:opOf 0 p = o) (h:opsVc ⟨P,nt,w0,I0,F0⟩ τ gs ops o st (VS ⟨P,nt,w0,I0,F0⟩ l K)):VS ⟨P,nt,w0,I0,F0⟩ (.region id ops.toArray true :: l) K st :=
 VC.drawn hτ hm gs T p o hT hok ho h
theorem VS.drawnE {P:Program} {nt:Nat} {w0:World} {I0:Nat→Prop} {F0:List G} {τ:Tab} (hτ:Tab.Ok P τ) (hm:P.follows .mixedOrders = true) {id:Nat} {ops:List Oper} (EM:Nat) (gs:List (Nat×Tmp)) (T:List Rw) (p:Plan) (o:OP)
  (hT:ops.map (rowOf ops.toArray) = T) (hok:drawOk EM nt ops gs T p = true) (ho:opOf EM p = o) (h:opsVc ⟨P,nt,w0,I0,F0⟩ τ gs ops o st (VS ⟨P,nt,w0,I0,F0⟩ l K)):VS ⟨P,nt,w0,I0,F0⟩ (.region id ops.toArray true :: l) K st :=
 VC.drawnE hτ hm EM gs T p o hT hok ho h
theorem VS.cond {x:Operand} {t f:Code} (h:condVc (st.ev x) (VS c (t :: l) K st) (VS c (f :: l) K st)):VS c (.cond x t f :: l) K st:=VC.cond h
theorem VS.block {id:Nat} {x:Code} (h:VS c [x] (blockN id (VS c l K) K) st):VS c (.block id x :: l) K st :=
 VC.block (VC.mono h fun e st' hk=>by
  cases e with
  | exit j =>
   simp only [thenK,blockN,blockK] at hk ⊢
   split
   ·rename_i h;rw [if_pos h] at hk;exact hk
   ·rename_i h;rw [if_neg h] at hk;exact hk
  | _=>exact hk)
theorem VS.rounds {x:Code} (J:Nat→St→Prop) (h0:∃ n,J n st) (hr:∀ n st,J n st→VS c [x] (loopN c.F0.length J n K) st):VS c (.loop x :: l) K st :=
 VC.rounds J h0 fun n st' hJ=>VC.mono (hr n st' hJ) fun e st'' hk=>by
  cases e with
  | normal=>exact hk
  | _=>exact hk
theorem VS.ghost {x:Code} {st':St} (hg:∀ a w,Rel c st a w→Rel c st' a w) (h:VS c (x :: l) K st'):VS c (x :: l) K st:=VC.ghost hg h
theorem VS.pick {x:Code} (ts:List Tmp) (sel:List Nat) (hs:selOk c.F0.length st.X.length sel = true) (h:VS c (x :: l) K (st.pick ts sel)):VS c (x :: l) K st:=VC.pick ts sel hs h
theorem VS.widen {x:Code} (κ':List (Nat×Path)) (h:st.κ.all (covers κ') = true) (hv:VS c (x :: l) K { st with κ:=κ' }):VS c (x :: l) K st:=VC.widen κ' h hv
def St.keep (st:St) (ts:List Tmp):St:={ st with env:=ts.map fun t=>(t,look st.env t) }
theorem look_keep (e:Env) (t:Tmp):∀ ts:List Tmp,look (ts.map fun t=>(t,look e t)) t = .bad∨look (ts.map fun t=>(t,look e t)) t = look e t
 | []=>.inl rfl
 | u :: ts=>by
  simp only [List.map_cons,look]
  split
  ·rename_i h;subst h;exact .inr rfl
  ·exact look_keep e t ts
theorem VS.keep {x:Code} (ts:List Tmp) (h:VS c (x :: l) K (st.keep ts)):VS c (x :: l) K st :=
 VS.ghost (st':=st.keep ts) (fun a w ⟨h1,h2,I,F,hi,he,hp⟩=>⟨h1,h2,I,F,hi,fun t=>by
  rcases look_keep st.env t ts with h' | h'
  ·show Rl _ _ _ (look (ts.map _) t) true _
   rw [h'];exact rl_one
  ·show Rl _ _ _ (look (ts.map _) t) true _
   rw [h'];exact he t,hp⟩) h
theorem VS.keepAt (id:Nat) {ops:Array Oper} {d:Bool} (ts:List Tmp) (h:VS c (.region id ops d :: l) K (st.keep ts)):VS c (.region id ops d :: l) K st:=VS.keep ts h
theorem VS.hold0 {x:Code} (t:Tmp) (z:Nat) (ht:isEmptyAV (look st.env t) = true) (h:VS c (x :: l) K (st.hold0 t z)):VS c (x :: l) K st:=VC.hold0 t z ht h
theorem VS.lift {x:Code} (k:Nat) (q:Path) (hlen:k < st.X.length) (hok:(st.tree k).okp q = true) (hn:isNode ((st.tree k).at_ q) = true) (hne:T.noEntry true (st.tree k) q = true) (h:VS c (x :: l) K (st.lift c.F0.length k q)):VS c (x :: l) K st :=
 VC.lift k q hlen hok hn hne h
variable {id:Nat} {N:St→Prop} {nb n:Nat} {J:Nat→St→Prop}
theorem blockN_hit (h:N st):blockN id N K (.exit id) st:=by simpa [blockN] using h
theorem blockN_miss {j:Nat} (hj:j≠id) (h:K (.exit j) st):blockN id N K (.exit j) st:=by simpa [blockN,hj] using h
end
def endK (nb:Nat) (τ:Tab) (rs:List ResultVar) (R:AV→List D→List (Nat×Path)→Prop) (e:Exit) (st:St):Prop :=
 ∃ ts sel κ',selOk nb st.X.length sel = true∧st.κ.all (covers κ') = true∧retK τ rs R e { st.pick ts sel with κ:=κ' }
theorem endK.of {nb:Nat} {τ:Tab} {rs:List ResultVar} {R:AV→List D→List (Nat×Path)→Prop} {e:Exit} {st:St} (ts:List Tmp) (sel:List Nat) (κ':List (Nat×Path)) (h1:selOk nb st.X.length sel = true) (h2:st.κ.all (covers κ') = true)
  (h:retK τ rs R e { st.pick ts sel with κ:=κ' }):endK nb τ rs R e st:=⟨ts,sel,κ',h1,h2,h⟩
theorem VC.mono' {c:Cx} {code:Code} {K K':Exit→St→Prop} {st:St} (h:VC c code K st) (hk:∀ e st a w,K e st→Rel c st a w→∃ st',K' e st'∧Rel c st' a w):VC c code K' st :=
 fun a w hr=>wp_mono (h a w hr) fun _ _ _ ⟨_,h1,h2⟩=>hk _ _ _ _ h1 h2
theorem Meets.of_vs {P:Program} {τ:Tab} (hτ:Tab.Ok P τ) {f:FuncId} {fn:Func} {body:Code} {Y:List D} {args:AV} {R:AV→List D→List (Nat×Path)→Prop}
  (hf:P.funcs[f]? = some fn) (hb:fn.body = some body) (hname:(fn.name == "runtime.NumGoroutine") = false) {nt:Nat} (hnt:fn.ntmps = nt) {rs:List ResultVar} (hrs:fn.results.toList = rs)
  (hl:args.isList = true) (hlen:args.len≤nt) {st:St} (hst:⟨envOf 0 args,Y,[],[]⟩ = st)
  (h:∀ w0 I0 F0,F0.length = Y.length→VS ⟨P,nt,w0,I0,F0⟩ [body] (endK Y.length τ rs R) st):Meets P f Y args R :=
 Meets.of_vc hτ hf hb hname hnt hrs hl hlen fun w0 I0 F0 hF=>by
  subst hst
  refine VC.mono' (h w0 I0 F0 hF) fun e st' a w hk hr=>?_
  have key:endK Y.length τ rs R e st'→∃ st'',retK τ rs R e st''∧Rel ⟨P,nt,w0,I0,F0⟩ st'' a w:=fun ⟨ts,sel,κ',h1,h2,h3⟩ =>
   have ⟨g1,g2,I,F,hi,he,hp⟩:=hr.pick ts (sel:=sel) (by rw [←hF] at h1;exact h1)
   ⟨_,h3,g1,g2,I,F,hi.rekill (κ':=κ') (fun _ _ _ _ hd=>dead_covers (by simpa [St.pick] using h2) hd),he,hp⟩
  cases e with
  | normal=>exact key hk
  | ret=>exact key hk
  | _=>exact key hk
attribute [irreducible] VS
end Go.Vc

/- Plain facts about lists. -/
namespace Go.Vc
set_option linter.all false
@[simp] theorem setN_setN {α:Type} (s x y:T α) (k:Nat):(s.setN k x).setN k y = s.setN k y:=by
 induction s generalizing k with
 | cons a t _ iht=>cases k with
  | zero=>rfl
  | succ k=>simp [T.setN,iht]
 | _=>cases k <;> rfl
attribute [simp] T.len_setN
@[simp] theorem dInts_mid1 (l:List Int) (n:Int):(dInts (l ++ [n])).mid 0 (l.length + 1) = dInts (l ++ [n]):=sq_mid_all _ _ (by simp)
@[simp] theorem dStrs_mid1 (l:List ByteArray) (n:ByteArray):(dStrs (l ++ [n])).mid 0 (l.length + 1) = dStrs (l ++ [n]):=sq_mid_all _ _ (by simp)
theorem beqBytes (s u:ByteArray):(s == u) = decide (s = u):=by
 rw [Bool.eq_iff_iff]
 rcases s with ⟨a⟩;rcases u with ⟨b⟩
 show (a == b) = true↔_
 simp
end Go.Vc

/- The rest of the rules that 'simp' bears. -/
namespace Go.Vc
set_option linter.all false
set_option linter.defProp false
def r_posOf_1:=@posOf.eq_1
def r_posOf_2:=@posOf.eq_2
def r_AV_ren_1:=@AV.ren.eq_1
def r_AV_ren_2:=@AV.ren.eq_2
def r_AV_ren_3:=@AV.ren.eq_3
def r_AV_ren_4:=@AV.ren.eq_4
def r_AV_ren_5:=@AV.ren.eq_5
def r_AV_ren_6:=@AV.ren.eq_6
def r_AV_ren_7:=@AV.ren.eq_7
def r_AV_ren_8:=@AV.ren.eq_8
def r_AV_whole_1:=@AV.whole.eq_1
def r_AV_whole_2:=@AV.whole.eq_2
def r_AV_whole_3:=@AV.whole.eq_3
def r_AV_whole_4:=@AV.whole.eq_4
def r_AV_whole_5:=@AV.whole.eq_5
def r_AV_whole_6:=@AV.whole.eq_6
def r_AV_whole_7:=@AV.whole.eq_7
def r_AV_whole_8:=@AV.whole.eq_8
def r_AV_renW_1:=@AV.renW.eq_1
def r_St_pick_1:=@St.pick.eq_1
def r_selOk_1:=@selOk.eq_1
def r_ord_nil:=@ord_nil
def r_ord_cons:=@ord_cons
def r_ord_guard:=@ord_guard
def r_St_after_1:=@St.after.eq_1
def r_back_1:=@back.eq_1
def r_back_2:=@back.eq_2
def r_mapK_1:=@mapK.eq_1
def r_AV_emb_1:=@AV.emb.eq_1
def r_AV_emb_2:=@AV.emb.eq_2
def r_AV_emb_3:=@AV.emb.eq_3
def r_AV_emb_4:=@AV.emb.eq_4
def r_AV_emb_5:=@AV.emb.eq_5
def r_AV_emb_6:=@AV.emb.eq_6
def r_AV_emb_7:=@AV.emb.eq_7
def r_AV_emb_8:=@AV.emb.eq_8
def r_embK_1:=@embK.eq_1
def r_placesOk_1:=@placesOk.eq_1
def r_placesOk_2:=@placesOk.eq_2
def r_placesOk_3:=@placesOk.eq_3
def r_AV_okArg_1:=@AV.okArg.eq_1
def r_AV_okArg_2:=@AV.okArg.eq_2
def r_AV_okArg_3:=@AV.okArg.eq_3
def r_AV_okArg_4:=@AV.okArg.eq_4
def r_AV_okArg_5:=@AV.okArg.eq_5
def r_AV_okArg_6:=@AV.okArg.eq_6
def r_AV_okArg_7:=@AV.okArg.eq_7
def r_AV_okArg_8:=@AV.okArg.eq_8
def r_St_keep_1:=@St.keep.eq_1
attribute [simp] r_posOf_1 r_posOf_2 r_AV_ren_1 r_AV_ren_2 r_AV_ren_3 r_AV_ren_4 r_AV_ren_5 r_AV_ren_6 r_AV_ren_7 r_AV_ren_8 r_AV_whole_1 r_AV_whole_2
attribute [simp] r_AV_whole_3 r_AV_whole_4 r_AV_whole_5 r_AV_whole_6 r_AV_whole_7 r_AV_whole_8 r_AV_renW_1 r_St_pick_1 r_selOk_1 r_ord_nil r_ord_cons
attribute [simp] r_ord_guard r_St_after_1 r_back_1 r_back_2 r_mapK_1 r_AV_emb_1 r_AV_emb_2 r_AV_emb_3 r_AV_emb_4 r_AV_emb_5 r_AV_emb_6 r_AV_emb_7
attribute [simp] r_AV_emb_8 r_embK_1 r_placesOk_1 r_placesOk_2 r_placesOk_3 r_AV_okArg_1 r_AV_okArg_2
attribute [simp] r_AV_okArg_3 r_AV_okArg_4 r_AV_okArg_5 r_AV_okArg_6 r_AV_okArg_7 r_AV_okArg_8 r_St_keep_1
theorem head_sl {α:Type} (o:Bool) (a:α) (z:Nat) (s:T α):isHead (.sl o a z s) = true:=by rw [isHead]
theorem head_box {α:Type} (o:Bool) (a:α) (s:T α):isHead (.box o a s) = true:=by rw [isHead]
theorem head_map {α:Type} (o:Bool) (a:α) (s:T α):isHead (.map o a s) = true:=by rw [isHead]
attribute [simp] head_sl head_box head_map
end Go.Vc

/- From what a function does to what the form of a row asks: a law's call returns true and leaves all that was there alone. -/
namespace Go.Vc
set_option linter.all false
open Go.RowKit (Below)
theorem Meets.law {P:Program} {f:FuncId} {args:AV} (h:Meets P f [] args fun av _ _=>av = .val (.bool true)) {w:World} {I:Nat→Prop} {vs:List Value} (hil:∀ b,I b→b < w.heap.size)
  (hx:Rl w.heap I [] args true vs):Calls P f vs.toArray w fun e w'=>e = .returned (.bool true)∧Below w.heap.size w w':=by
 refine Calls.mono (h.2 w I [] vs rfl (by simp) (by simp [own]) (by simp [own]) (by simp [own]) hil hx) fun e w' he=>?_
 obtain ⟨v,av,X,κ,I',F',rfl,rfl,hi,hr⟩:=he
 obtain ⟨hv,_⟩:=hr
 injection hv with hv _
 subst hv
 exact ⟨rfl,hi.os,hi.tape,hi.output,hi.size,fun b hb=>hi.frame b hb (by simp [own])⟩
theorem Meets.mono {P:Program} {f:FuncId} {Y:List D} {args:AV} {R R':AV→List D→List (Nat×Path)→Prop} (h:Meets P f Y args R) (hr:∀ av X κ,R av X κ→R' av X κ):Meets P f Y args R' :=
 ⟨h.1,fun w I F0 vs h1 h2 h3 h4 h5 h6 h7=>Calls.mono (h.2 w I F0 vs h1 h2 h3 h4 h5 h6 h7) fun _ _ ⟨v,av,X,κ,I',F',e1,e2,e3,e4⟩=>⟨v,av,X,κ,I',F',e1,hr _ _ _ e2,e3,e4⟩⟩
theorem put_true {gs:List (Nat×Tmp)} {i:Nat} {dst:Option Tmp} {st:St} {K:St→Prop}:putVc gs i dst (.val (.bool true)) st K = K (st.put dst (.val (.bool true))):=by
 unfold putVc;split <;> simp_all
theorem put_false {gs:List (Nat×Tmp)} {i:Nat} {dst:Option Tmp} {st:St} {K:St→Prop}:putVc gs i dst (.val (.bool false)) st K = K (st.put dst (.val (.bool false))):=by
 unfold putVc;split <;> simp_all
def r_put_true:=@put_true
def r_put_false:=@put_false
attribute [simp high] r_put_true r_put_false
def r_freshVc_append:=@freshVc_append
def r_capless_nils:=@capless.eq_1
def r_freshVc_call:=@freshVc_call
theorem fnStill_fn (as s:AV) (f:FuncId):fnStill as (.fn f s) = (as.app s).still:=rfl
def r_fnStill_fn:=@fnStill_fn
attribute [simp] r_freshVc_append r_capless_nils r_freshVc_call r_fnStill_fn
section
variable (v:Value) (z k:Nat) (q:Path) (lo n:Nat) (ex:Bool) (s:D) (a t:AV) (f:FuncId)
@[simp] theorem still_bad:AV.bad.still = true:=rfl
@[simp] theorem still_val:(AV.val v).still = true:=rfl
@[simp] theorem still_nils:(AV.nils z).still = true:=rfl
@[simp] theorem still_ptr:(AV.ptr k q).still = false:=rfl
@[simp] theorem still_sub:(AV.sub k q lo n ex).still = false:=rfl
@[simp] theorem still_mp:(AV.mp k q).still = false:=rfl
@[simp] theorem still_imm:(AV.imm z s ex).still = true:=rfl
@[simp] theorem still_iptr:(AV.iptr s).still = true:=rfl
@[simp] theorem still_nil:AV.nil.still = true:=rfl
@[simp] theorem still_cons:(AV.cons a t).still = (a.still && t.still):=rfl
@[simp] theorem still_agg:(AV.agg a).still = a.still:=rfl
@[simp] theorem still_tup:(AV.tup a).still = a.still:=rfl
@[simp] theorem still_fn:(AV.fn f a).still = a.still:=rfl
end
@[simp] theorem capless_sub (k:Nat) (q:Path) (lo:Nat):capless (.sub k q lo 0 true) = true:=rfl
@[simp] theorem all_lt_two {P:Nat→Prop}:(∀ x,x < 2→P x)↔P 0∧P 1:=⟨fun h=>⟨h 0 (by omega),h 1 (by omega)⟩,fun ⟨h0,h1⟩ x hx=>by
 match x,hx with
 | 0,_=>exact h0
 | 1,_=>exact h1⟩
@[simp] theorem all_lt_three {P:Nat→Prop}:(∀ x,x < 3→P x)↔P 0∧P 1∧P 2:=⟨fun h=>⟨h 0 (by omega),h 1 (by omega),h 2 (by omega)⟩,fun ⟨h0,h1,h2⟩ x hx=>by
 match x,hx with
 | 0,_=>exact h0
 | 1,_=>exact h1
 | 2,_=>exact h2⟩
@[simp] theorem all_lt_four {P:Nat→Prop}:(∀ x,x < 4→P x)↔P 0∧P 1∧P 2∧P 3:=⟨fun h=>⟨h 0 (by omega),h 1 (by omega),h 2 (by omega),h 3 (by omega)⟩,fun ⟨h0,h1,h2,h3⟩ x hx=>by
 match x,hx with
 | 0,_=>exact h0
 | 1,_=>exact h1
 | 2,_=>exact h2
 | 3,_=>exact h3⟩
end Go.Vc

/- A function that only reads a tree may be shown with the tree as one that cannot change. -/
namespace Go.Vc
set_option linter.all false
open T (hdr blk)
namespace T
variable {α:Type}
def freeze:T α→T α
 | .val v=>.val v
 | .junk a=>.junk a
 | .nil=>.nil
 | .cons h t=>.cons h.freeze t.freeze
 | .agg s=>.agg s.freeze
 | .sl _ a z s=>.sl false a z s.freeze
 | .box _ a g=>.box false a g.freeze
 | .map _ a s=>.map false a s.freeze
def allOwn:T α→Bool
 | .cons h t=>h.allOwn && t.allOwn
 | .agg s=>s.allOwn
 | .sl o _ _ s=>o && s.allOwn
 | .box o _ g=>o && g.allOwn
 | .map o _ s=>o && s.allOwn
 | _=>true
theorem freeze_free (g:T α):g.freeze.free = true:=by
 induction g with
 | cons h t ihh iht=>simp [freeze,free,ihh,iht]
 | agg s ih=>simpa [freeze,free] using ih
 | sl o a z s ih=>simpa [freeze,free] using ih
 | box o a s ih=>simpa [freeze,free] using ih
 | map o a s ih=>simpa [freeze,free] using ih
 | _=>rfl
theorem freeze_erase (g:G):g.freeze.erase = g.erase.freeze:=by
 induction g with
 | cons h t ihh iht=>simp [freeze,erase,ihh,iht]
 | agg s ih=>simp [freeze,erase,ih]
 | sl o a z s ih=>simp [freeze,erase,ih]
 | box o a s ih=>simp [freeze,erase,ih]
 | map o a s ih=>simp [freeze,erase,ih]
 | _=>rfl
theorem freeze_width (g:T α):g.freeze.width = g.width:=by
 induction g with
 | cons h t ihh iht=>simp [freeze,width,ihh,iht]
 | agg s ih=>simpa [freeze,width] using ih
 | _=>rfl
theorem freeze_len (g:T α):g.freeze.len = g.len:=by
 induction g with
 | cons h t ihh iht=>simp [freeze,len,iht]
 | _=>rfl
theorem freeze_cells (g:G):g.freeze.cells = g.cells:=by
 induction g with
 | cons h t ihh iht=>simp [freeze,cells,ihh,iht]
 | agg s ih=>simpa [freeze,cells] using ih
 | _=>rfl
theorem freeze_uni {z:Nat} {g:T α} (h:g.uni z):g.freeze.uni z:=by
 induction g with
 | cons a t _ iht=>exact ⟨by rw [freeze_width];exact h.1,iht h.2⟩
 | nil=>trivial
 | _=>exact h.elim
theorem freeze_aggy (g:G):aggy g.freeze = aggy g:=by cases g <;> rfl
theorem allOwn_erase (g:G):g.erase.allOwn = g.allOwn:=by
 induction g with
 | cons h t ihh iht=>simp [erase,allOwn,ihh,iht]
 | agg s ih=>simpa [erase,allOwn] using ih
 | sl o a z s ih=>simp [erase,allOwn,ih]
 | box o a s ih=>simp [erase,allOwn,ih]
 | map o a s ih=>simp [erase,allOwn,ih]
 | _=>rfl
theorem sqv_freeze {α:Type} (l:List Value):(sqv l:T α).freeze = sqv l:=by
 induction l with
 | nil=>rfl
 | cons v l ih=>simp [sqv,freeze,ih]
theorem keyT_freeze {α:Type} (v:Value):(keyT v:T α).freeze = keyT v:=by
 rcases keyT_form (α:=α) v with ⟨x,rfl,e1⟩ | ⟨n1,e1⟩
 ·rw [e1];simp only [freeze,sqv_freeze]
 ·rw [e1];rfl
theorem entries_freeze {g:G}:∀ {es:List MapEntry},entriesAre es g→entriesAre es g.freeze:=by
 induction g with
 | cons h t _ iht =>
  intro es H
  cases es with
  | nil=>exact H.elim
  | cons e es =>
   unfold entriesAre at H
   split at H
   ·rename_i heq1 heq2;cases heq1
   ·rename_i heq1 heq2
    cases heq1;cases heq2
    obtain ⟨h1,h2,h3⟩:=H
    simp only [freeze,entriesAre]
    exact ⟨by rw [h1,keyT_freeze],by rw [freeze_cells,freeze_aggy];exact h2,iht h3⟩
   ·exact H.elim
 | nil=>intro es H;cases es <;> exact H
 | _=>intro es H;cases es <;> exact H.elim
theorem Holds.freeze {h:Array Obj} {I I':Nat→Prop} {g:G} (H:Holds h I g) (hI:∀ b,I b→I' b) (ho:∀ b∈g.owned,I' b):Holds h I' g.freeze:=by
 induction g with
 | val v=>exact H
 | junk a=>exact H
 | nil=>trivial
 | cons x t ihx iht=>exact ⟨ihx H.1 fun b hb=>ho b (by simp [owned,hb]),iht H.2 fun b hb=>ho b (by simp [owned,hb])⟩
 | agg s ih=>exact ih H fun b hb=>ho b (by simpa [owned] using hb)
 | sl own a z s ih =>
  obtain ⟨h1,h2,h3,h4⟩:=H
  have hs:∀ b∈s.owned,I' b:=fun b hb=>by
   cases own
   ·rw [owned_free (h3 rfl)] at hb;cases hb
   ·exact ho b (by simp [owned,hb])
  refine ⟨ih h1 hs,freeze_uni h2,fun _=>freeze_free s,?_⟩
  rw [freeze_len,freeze_cells]
  split at h4
  ·exact h4
  ·exact ⟨h4.1,(fun h=>by cases h),h4.2.2⟩
  ·rename_i x n c
   obtain ⟨g1,g2,g3,g4,g5,row,e,fr,g6,gf,g7⟩:=h4
   refine ⟨g1,g2,g3,g4,fun _=>?_,row,e,fr,g6,(fun h=>by cases h),g7⟩
   cases own
   ·exact hI _ (g5 rfl)
   ·exact ho _ (by simp [owned,blk])
  ·exact h4.elim
 | box own a g ih =>
  obtain ⟨h1,h3,h4⟩:=H
  have hs:∀ b∈g.owned,I' b:=fun b hb=>by
   cases own
   ·rw [owned_free (h3 rfl)] at hb;cases hb
   ·exact ho b (by simp [owned,hb])
  refine ⟨ih h1 hs,fun _=>freeze_free g,?_⟩
  rw [freeze_cells]
  split at h4
  ·rename_i x
   obtain ⟨g1,g5,gz,g6⟩:=h4
   refine ⟨g1,fun _=>?_,(fun h=>by cases h),g6⟩
   cases own
   ·exact hI _ (g5 rfl)
   ·exact ho _ (by simp [owned,blk])
  ·exact h4.elim
 | map own a s ih =>
  obtain ⟨h1,h3,h4⟩:=H
  have hs:∀ b∈s.owned,I' b:=fun b hb=>by
   cases own
   ·rw [owned_free (h3 rfl)] at hb;cases hb
   ·exact ho b (by simp [owned,hb])
  refine ⟨ih h1 hs,fun _=>freeze_free s,?_⟩
  split at h4
  ·rename_i r
   obtain ⟨g5,es,c,g6,g7,g8⟩:=h4
   refine ⟨fun _=>?_,es,c,g6,entries_freeze g7,g8⟩
   cases own
   ·exact hI _ (g5 rfl)
   ·exact ho _ (by simp [owned,blk])
  ·exact h4.elim
theorem Holds.own {h:Array Obj} {I I':Nat→Prop} {g:G} (H:Holds h I g) (ho:g.allOwn = true):Holds h I' g:=by
 induction g with
 | val v=>exact H
 | junk a=>exact H
 | nil=>trivial
 | cons x t ihx iht =>
  simp only [allOwn,Bool.and_eq_true] at ho
  exact ⟨ihx H.1 ho.1,iht H.2 ho.2⟩
 | agg s ih=>exact ih H ho
 | sl own a z s ih =>
  simp only [allOwn,Bool.and_eq_true] at ho
  obtain ⟨rfl,ho⟩:=ho
  obtain ⟨h1,h2,h3,h4⟩:=H
  refine ⟨ih h1 ho,h2,h3,?_⟩
  split at h4
  ·exact h4
  ·exact h4
  ·obtain ⟨g1,g2,g3,g4,g5,g6⟩:=h4
   exact ⟨g1,g2,g3,g4,(fun h=>by cases h),g6⟩
  ·exact h4.elim
 | box own a g ih =>
  simp only [allOwn,Bool.and_eq_true] at ho
  obtain ⟨rfl,ho⟩:=ho
  obtain ⟨h1,h3,h4⟩:=H
  refine ⟨ih h1 ho,h3,?_⟩
  split at h4
  ·obtain ⟨g1,g5,g6⟩:=h4
   exact ⟨g1,(fun h=>by cases h),g6⟩
  ·exact h4.elim
 | map own a s ih =>
  simp only [allOwn,Bool.and_eq_true] at ho
  obtain ⟨rfl,ho⟩:=ho
  obtain ⟨h1,h3,h4⟩:=H
  refine ⟨ih h1 ho,h3,?_⟩
  split at h4
  ·obtain ⟨g5,g6⟩:=h4
   exact ⟨(fun h=>by cases h),g6⟩
  ·exact h4.elim
end T
def AV.plain:AV→Bool
 | .imm _ _ _=>false
 | .iptr _=>false
 | .cons a t=>a.plain && t.plain
 | .agg s=>s.plain
 | .tup s=>s.plain
 | .fn _ s=>s.plain
 | _=>true
theorem Rl.still {h:Array Obj} {I I':Nat→Prop} {F F':List G} {av:AV} {m:Bool} {vs:List Value} (H:Rl h I F av m vs) (hI:∀ b,I b→I' b) (ha:av.still = true):Rl h I' F' av m vs:=by
 refine H.agree (fun _ _=>rfl) hI ?_
 clear H
 induction av with
 | cons a t iha iht=>simp only [AV.still,Bool.and_eq_true] at ha;exact ⟨iha ha.1,iht ha.2⟩
 | agg s ih=>exact ih ha
 | tup s ih=>exact ih ha
 | fn f s ih=>exact ih ha
 | ptr _ _=>cases ha
 | sub _ _ _ _ _=>cases ha
 | mp _ _=>cases ha
 | _=>trivial
theorem Rl.shift {h:Array Obj} {I I':Nat→Prop} {F:List G} {g0:G} {av:AV} (ha:av.plain = true):∀ {m:Bool} {vs:List Value},Rl h I F av m vs→Rl h I' (g0 :: F) (av.emb [] 1) m vs:=by
 have hk:∀ k,embK [] 1 k = (k + 1,[]):=fun k=>by simp [embK];omega
 induction av with
 | bad=>intro m vs H;cases m <;> exact H
 | val v=>intro m vs H;cases m <;> exact H
 | nils z=>intro m vs H;cases m <;> exact H
 | cut z=>intro m vs H;cases m <;> exact H
 | ptr k q =>
  intro m vs H
  have e:(AV.ptr k q).emb [] 1 = .ptr (k + 1) q:=by simp only [AV.emb,hk,List.nil_append]
  rw [e]
  cases m <;> (obtain ⟨b,o,h1,h2⟩:=H;exact ⟨b,o,by simpa [locF] using h1,h2⟩)
 | sub k q lo n ex =>
  intro m vs H
  have e:(AV.sub k q lo n ex).emb [] 1 = .sub (k + 1) q lo n ex:=by simp only [AV.emb,hk,List.nil_append]
  rw [e]
  cases m <;> (obtain ⟨own,a,z,len,v,h1,h2⟩:=H;exact ⟨own,a,z,len,v,by simpa [hdrF] using h1,h2⟩)
 | mp k q =>
  intro m vs H
  have e:(AV.mp k q).emb [] 1 = .mp (k + 1) q:=by simp only [AV.emb,hk,List.nil_append]
  rw [e]
  cases m <;> (obtain ⟨own,r,z,len,h1,h2⟩:=H;exact ⟨own,r,z,len,by simpa [hdrF] using h1,h2⟩)
 | imm z s ex=>cases ha
 | iptr d=>cases ha
 | nil=>intro m vs H;cases m <;> exact H
 | cons a t iha iht =>
  simp only [AV.plain,Bool.and_eq_true] at ha
  intro m vs H
  cases m
  ·obtain ⟨v1,v2,h1,h2,h3⟩:=H
   exact ⟨v1,v2,h1,iha ha.1 h2,iht ha.2 h3⟩
  ·obtain ⟨v1,v2,h1,h2,h3⟩:=H
   exact ⟨v1,v2,h1,iha ha.1 h2,iht ha.2 h3⟩
 | agg s ih =>
  intro m vs H
  cases m
  ·exact ih ha (m:=false) H
  ·obtain ⟨cs,h1,h2⟩:=H
   exact ⟨cs,h1,ih ha h2⟩
 | tup s ih =>
  intro m vs H
  cases m
  ·exact H
  ·obtain ⟨cs,h1,h2⟩:=H
   exact ⟨cs,h1,ih ha h2⟩
 | fn f s ih =>
  intro m vs H
  cases m <;> (obtain ⟨cs,h1,h2⟩:=H;exact ⟨cs,h1,ih ha h2⟩)
end Go.Vc

/- Steps that are no steps of the machine: memory of the call's own is from now on left alone. And the rules of the new operations. -/
namespace Go.Vc
set_option linter.all false
open T (hdr blk aggy vAgg)
open Go.MapKept (IsKey)
theorem Stp.cool {c:Cx} {X:List D} {κ κ0:List (Nat×Path)} {w:World} {I:Nat→Prop} {F F1:List G} {x:G} {cs:List Value} {r:Tk} (hi:Inv c X κ w I F) (L:Laid w.heap I c.F0.length κ0 F F1 x cs r) :
  Stp w w I (fun b=>I b∨b∈x.owned) F F1 r.κ c.F0.length where
 holds:=fun g hg=>(L.holds g hg).agree (fun _ _=>rfl) (fun _ _=>rfl) fun _ h=>.inl h
 nodup:=nodup_of_count fun b=>by
  have h1:=L.count b
  have h2:=count_le_one hi.nodup b
  omega
 apart:=fun b hb hI=>by
  rcases hI with hI | hI
  ·exact hi.apart b (L.mem1 hb) hI
  ·have h1:=L.count b
   have h2:=count_le_one hi.nodup b
   rw [mem_of_count] at hb hI
   omega
 mine:=fun b hb=>.inl (L.mem1 hb)
 lt:=fun b hb=>hi.lt b (L.mem1 hb)
 ilt:=fun b hb=>hb.elim (hi.ilt b) fun h=>hi.lt b (L.memx h)
 heap:=fun _ _ _=>rfl
 size:=Nat.le_refl _
 os:=rfl
 tape:=rfl
 output:=rfl
 imono:=fun _ h=>.inl h
 inew:=fun b h=>h.imp id fun h=>.inl (L.memx h)
 keep:=fun k g hg=>by
  obtain ⟨g1,h1,h2⟩:=L.keep.2 k g hg
  refine ⟨g1,h1,?_⟩
  rcases h2 with rfl | ⟨⟨a,rfl⟩,h3,h4⟩
  ·exact ⟨fun _=>rfl,fun _ _=>rfl,fun _ _=>rfl,fun _ _ h _=>h⟩
  ·refine ⟨fun h=>by omega,fun q hq=>?_,fun q hq=>?_,fun q v _ hq=>?_⟩
   ·cases q with
    | nil=>simp [T.loc]
    | cons st q=>rw [dead_roots' L.keep.1 (by simp),h3] at hq;cases hq
   ·rw [dead_roots L.keep.1,h3] at hq;cases hq
   ·rw [dead_roots L.keep.1,h3] at hq;cases hq
def St.cool (nb:Nat) (st:St) (t:Tmp):St :=
 let r:=(look st.env t).lay nb st.X
 match r.d with
 | .sl _ _ z s=>{ env:=(t,.imm z s.freeze false) :: st.env.kill r.κ,X:=r.X,κ:=st.κ,pl:=plKill r.κ st.pl }
 | _=>st
def AV.isSl:AV→Bool
 | .nils _=>true
 | .sub _ _ _ _ _=>true
 | .imm _ _ _=>true
 | _=>false
theorem isSl_cell {av:AV} (h:av.isSl = true):av.isCell = true:=by cases av <;> simp_all [AV.isSl,AV.isCell]
theorem isSl_slice {h:Array Obj} {I:Nat→Prop} {F:List G} {av:AV} {v:Value} (hs:av.isSl = true) (H:Rl h I F av true [v]):vAgg v = false:=by
 cases av <;> simp only [AV.isSl] at hs <;> try cases hs
 case nils z=>simp only [Rl,List.cons.injEq,and_true] at H;subst H;rfl
 case sub k q lo n ex =>
  obtain ⟨_,_,_,_,v',_,h1,_,_,rfl,_⟩:=H
  injection h1 with h1 _
  subst h1;rfl
 case imm z s ex =>
  obtain ⟨v',h1,s',_,h2,_⟩:=H
  injection h1 with h1 _
  subst h1
  have:=h2.2.2.2
  cases v <;> first | rfl | exact this.elim
theorem Rel.cool {c:Cx} {st:St} {a:Act} {w:World} (h:Rel c st a w) (t:Tmp) (hsl:(look st.env t).isSl = true):Rel c (st.cool c.F0.length t) a w:=by
 have hc:=isSl_cell hsl
 unfold St.cool
 simp only
 split
 case h_2=>exact h
 rename_i o _ z s hd
 obtain ⟨h1,h2,I,F,hi,he,hp⟩:=h
 have hag:=isSl_slice hsl (he t)
 obtain ⟨F1,x,L,hsq⟩:=lay_ok (nb:=c.F0.length) (F0:=F) (κ0:=[]) hi.holds (KeepR.refl _ F) ((he t).toCells hc)
 rw [hi.erase] at L
 have hb:=fun k q s=>@lay_bases c.F0.length (look st.env t) st.X k q s
 generalize (look st.env t).lay c.F0.length st.X = r at *
 have hx:=L.xerase
 rw [hd] at hx
 obtain ⟨v,s',rfl,hs⟩:∃ v s',x = .sl o v z s'∧s'.erase = s:=by
  cases x <;> simp only [T.erase] at hx <;> cases hx
  exact ⟨_,_,rfl,rfl⟩
 have S:=Stp.cool hi L
 have hcell:=L.cells
 have hv:[a.tmps.getD t undef] = [v]:=by rw [←cells_one hag,←hcell];rfl
 refine ⟨h1,h2,_,F1,?_,fun t'=>?_,hp.step hi S⟩
 ·have:=(hi.step S).unkill hb
  rwa [L.erase] at this
 ·simp only [look]
  split
  ·rename_i e
   subst e
   exact ⟨v,hv,s'.freeze,by rw [T.freeze_erase,hs],L.xholds.freeze (I':=fun b=>I b∨b∈(T.sl o v z s':G).owned) (fun _ h=>.inl h) (fun _ h=>.inr h),fun h=>by cases h⟩
  ·exact he.step hi S t'
theorem VS.cool {c:Cx} {x:Code} {l:List Code} {K:Exit→St→Prop} {st:St} (t:Tmp) (hs:(look st.env t).isSl = true) (h:VS c (x :: l) K (st.cool c.F0.length t)):VS c (x :: l) K st :=
 VS.ghost (fun _ _ hr=>hr.cool t hs) h
def St.cold (nb:Nat) (st:St) (k:Nat) (q:Path):St where
 env:=st.env.kill [(k,q)]
 X:=st.X.set k ((st.tree k).set q ((st.tree k).at_ q).freeze)
 κ:=(bif Nat.ble nb k then [] else [(k,q)]) ++ st.κ
 pl:=plKill [(k,q)] st.pl
theorem Rel.cold {c:Cx} {st:St} {a:Act} {w:World} (h:Rel c st a w) {k:Nat} {q:Path} (hlen:k < st.X.length) (hok:(st.tree k).okp q = true) (hne:T.noEntry true (st.tree k) q = true) :
  Rel c (st.cold c.F0.length k q) a w:=by
 obtain ⟨h1,h2,I,F,hi,he,hp⟩:=h
 have hFl:F.length = st.X.length:=by rw [←hi.erase];simp
 obtain ⟨g,hg⟩:∃ g,F[k]? = some g:=⟨F[k]'(by omega),List.getElem?_eq_getElem (by omega)⟩
 have ht:=hi.tree hg
 rw [ht] at hok hne
 rw [T.okp_erase] at hok
 rw [T.noEntry_erase] at hne
 have hH:=hi.holds g (List.mem_of_getElem? hg)
 have hc:(g.at_ q).freeze.cells = (g.at_ q).cells:=T.freeze_cells _
 have hw:(g.at_ q).freeze.width = (g.at_ q).width:=T.freeze_width _
 have hfo:(g.at_ q).freeze.owned = []:=T.owned_free (T.freeze_free _)
 have hII:∀ b,I b→I b∨b∈(g.at_ q).owned:=fun _ h=>.inl h
 have hset:T.Holds w.heap (fun b=>I b∨b∈(g.at_ q).owned) (g.set q (g.at_ q).freeze) :=
  T.Holds.set_same (I:=I) (x:=(g.at_ q).freeze) ((hH.at_ q).freeze hII fun _ h=>.inr h) (fun _ _=>rfl) hII hH hok hne hc (fun _=>T.freeze_aggy _) (fun _ _=>rfl)
 have hcr:=fun b=>T.count_rest hok b
 have hcount:∀ b,(own (F.set k (g.set q (g.at_ q).freeze))).count b + (g.at_ q).owned.count b = (own F).count b:=fun b=>by
  have h2:=own_set hg (g.set q (g.at_ q).freeze) b
  have h3:=(hcr b).1
  have h4:=(hcr b).2 (g.at_ q).freeze
  rw [hfo,List.count_nil] at h4
  omega
 have hmem:∀ b,b∈own (F.set k (g.set q (g.at_ q).freeze))→b∈own F:=fun b hb=>by
  have:=hcount b
  rw [mem_of_count] at *;omega
 have hmem2:∀ b,b∈(g.at_ q).owned→b∈own F:=fun b hb=>by
  have:=hcount b
  rw [mem_of_count] at *;omega
 obtain ⟨k1,k2,k3⟩:=keep_any (k:=k) hw hok
 have hkl:k < F.length:=by omega
 have S:Stp w w I (fun b=>I b∨b∈(g.at_ q).owned) F (F.set k (g.set q (g.at_ q).freeze)) [(k,q)] c.F0.length:={
  holds:=fun g' hg'=>by
   rcases List.mem_or_eq_of_mem_set hg' with h' | h'
   ·exact (hi.holds _ h').agree (fun _ _=>rfl) (fun _ _=>rfl) hII
   ·subst h';exact hset
  nodup:=nodup_of_count fun b=>by have:=hcount b;have:=count_le_one hi.nodup b;omega
  apart:=fun b hb hI=>by
   rcases hI with hI | hI
   ·exact hi.apart b (hmem b hb) hI
   ·have h1:=hcount b
    have h2:=count_le_one hi.nodup b
    rw [mem_of_count] at hb hI
    omega
  mine:=fun b hb=>.inl (hmem b hb)
  lt:=fun b hb=>hi.lt b (hmem b hb)
  ilt:=fun b hb=>hb.elim (hi.ilt b) fun h=>hi.lt b (hmem2 b h)
  heap:=fun _ _ _=>rfl
  size:=Nat.le_refl _
  os:=rfl
  tape:=rfl
  output:=rfl
  imono:=hII
  inew:=fun b h=>h.imp id fun h=>.inl (hmem2 b h)
  keep:=fun j f hf=>by
   by_cases e:k = j
   ·subst e
    rw [hg] at hf;cases hf
    exact ⟨_,List.getElem?_set_self hkl,fun _=>T.cells_set_same hok hc,k1,k2,k3⟩
   ·exact ⟨f,by rw [List.getElem?_set_ne e];exact hf,fun _=>rfl,fun _ _=>rfl,fun _ _=>rfl,fun _ _ h _=>h⟩ }
 refine ⟨h1,h2,_,_,?_,he.step hi S,hp.step hi S⟩
 have h3:=hi.step S
 rw [List.map_set,hi.erase,T.erase_set,←ht,T.freeze_erase,T.erase_at,←ht] at h3
 cases hb:Nat.ble c.F0.length k with
 | false=>simp only [St.cold,hb,cond_false];exact h3
 | true =>
  have:=h3.unkill fun j p s hj=>by
   have:=Nat.le_of_ble_eq_true hb
   have:(j == k) = false:=by simp;omega
   simp [dead,this]
  simp only [St.cold,hb,cond_true,List.nil_append];exact this
theorem VS.cold {c:Cx} {x:Code} {l:List Code} {K:Exit→St→Prop} {st:St} (k:Nat) (q:Path) (hlen:k < st.X.length) (hok:(st.tree k).okp q = true) (hne:T.noEntry true (st.tree k) q = true)
  (h:VS c (x :: l) K (st.cold c.F0.length k q)):VS c (x :: l) K st :=
 VS.ghost (fun _ _ hr=>hr.cold hlen hok hne) h
def AV.chill:AV→AV
 | .nils z=>.imm z .nil false
 | .cons a t=>.cons a.chill t.chill
 | .agg s=>.agg s.chill
 | .tup s=>.tup s.chill
 | a=>a
theorem Rl.chill {h:Array Obj} {I:Nat→Prop} {F:List G} {av:AV}:∀ {m:Bool} {vs:List Value},Rl h I F av m vs→Rl h I F av.chill m vs:=by
 induction av with
 | nils z =>
  intro m vs H
  have hv:vs = [.slice none 0 0]:=by cases m <;> exact H
  subst hv
  cases m <;> exact ⟨_,rfl,.nil,rfl,⟨trivial,trivial,fun _=>rfl,rfl,rfl,rfl⟩,fun h=>by cases h⟩
 | cons a t iha iht =>
  intro m vs H
  cases m <;> (obtain ⟨v1,v2,h1,h2,h3⟩:=H;exact ⟨v1,v2,h1,iha h2,iht h3⟩)
 | agg s ih =>
  intro m vs H
  cases m
  ·exact ih (m:=false) H
  ·obtain ⟨cs,h1,h2⟩:=H;exact ⟨cs,h1,ih h2⟩
 | tup s ih =>
  intro m vs H
  cases m
  ·exact H
  ·obtain ⟨cs,h1,h2⟩:=H;exact ⟨cs,h1,ih h2⟩
 | _=>intro m vs H;exact H
def St.chill (st:St) (t:Tmp):St:={ st with env:=(t,(look st.env t).chill) :: st.env }
theorem VS.chill {c:Cx} {x:Code} {l:List Code} {K:Exit→St→Prop} {st:St} (t:Tmp) (h:VS c (x :: l) K (st.chill t)):VS c (x :: l) K st :=
 VS.ghost (st':=st.chill t) (fun a w ⟨h1,h2,I,F,hi,he,hp⟩=>⟨h1,h2,I,F,hi,fun t'=>by
  simp only [St.chill,look]
  split
  ·rename_i e;subst e;exact (he t).chill
  ·exact he t',hp⟩) h
def St.forget (st:St):St:={ st with pl:=[] }
theorem VS.forget {c:Cx} {x:Code} {l:List Code} {K:Exit→St→Prop} {st:St} (h:VS c (x :: l) K st.forget):VS c (x :: l) K st :=
 VS.ghost (st':=st.forget) (fun a w ⟨h1,h2,I,F,hi,he,hp⟩=>⟨h1,h2,I,F,hi,he,fun k q av hm=>by cases hm⟩) h
section
variable {c:Cx} {τ:Tab} {st:St} {dst:Option Tmp} {ty:TypeId} {pos:String} {after:Array Edge} {g:Option (Nat×Bool)} {K:AV→St→Prop}
theorem op_makeFunc {f:FuncId} {b:List Operand}:opVc c τ ⟨dst,.makeFunc (.func f) #[] b.toArray,ty,pos,after,g⟩ st K = bindK (seqOf st b) fun s=>K (.fn f s) st:=by
 simp [opVc,pureVc,bindK]
theorem op_makeMap {t:TypeId}:opVc c τ ⟨dst,.makeMap t none,ty,pos,after,g⟩ st K = K (.mp st.X.length []) { st with X:=st.X ++ [.map true () .nil] }:=by
 simp [opVc,newVc]
theorem op_cap {x:Operand} {t:TypeId}:opVc c τ ⟨dst,.call ⟨.builtin .cap,#[x],#[t]⟩,ty,pos,after,g⟩ st K = bindK (st.ev x) fun x=>match x with
  | .nils _=>(τ t).sl.isSome = true∧K (.val (.int .i64 0)) st
  | _=>False:=rfl
theorem op_min {x y:Operand} {ts:Array TypeId}:opVc c τ ⟨dst,.call ⟨.builtin .min,#[x,y],ts⟩,ty,pos,after,g⟩ st K = bindK (st.ev x) fun x=>bindK (st.ev y) fun y=>match x,y with
  | .val (.int k n),.val (.int k' m)=>k = k'∧K (.val (.int k (if m < n then m else n))) st
  | _,_=>False:=rfl
theorem op_max {x y:Operand} {ts:Array TypeId}:opVc c τ ⟨dst,.call ⟨.builtin .max,#[x,y],ts⟩,ty,pos,after,g⟩ st K = bindK (st.ev x) fun x=>bindK (st.ev y) fun y=>match x,y with
  | .val (.int k n),.val (.int k' m)=>k = k'∧K (.val (.int k (if n < m then m else n))) st
  | _,_=>False:=rfl
theorem op_zap {t u:TypeId} {x y:Operand} (h:Nat.beq t u = false):opVc c τ ⟨dst,.call ⟨.builtin .append,#[x,y],#[t,u]⟩,ty,pos,after,g⟩ st K = bindK (st.evT τ t x) fun x=>bindK (st.ev y) fun y=>bindK (τ t).sl fun s=>bindK (τ u).int fun i=>match x,y,s,i with
  | .nils _,.val (.int _ n),some (e,z,by_,_),some _=>bindK (τ e).zero fun g=>match g with
   | some g=>0 < n∧n * by_≤140737488355328∧n≤2 ^ 63 - 1∧K (.sub st.X.length [] 0 n.toNat false) { st with X:=st.X ++ [.sl true () z (sq0 (List.replicate n.toNat g.erase))] }
   | none=>False
  | _,_,_,_=>False:=by
 simp only [opVc,twoTy,h,Bool.not_false];rfl
theorem op_makeSlice {t:TypeId} {x y:Operand}:opVc c τ ⟨dst,.makeSlice t x y,ty,pos,after,g⟩ st K = bindK (st.ev x) fun x=>bindK (st.ev y) fun y=>bindK (τ t).sl fun s=>match x,y,s with
  | .val (.int _ n),.val (.int _ m),some (e,z,by_,_)=>bindK (τ e).zero fun g=>match g with
   | some g=>n = m∧0≤n∧n * by_≤140737488355328∧n≤2 ^ 63 - 1∧g.width = z∧0 < z∧K (.sub st.X.length [] 0 n.toNat true) { st with X:=st.X ++ [.sl true () z (sq0 (List.replicate n.toNat g.erase))] }
   | none=>False
  | _,_,_=>False:=rfl
theorem op_lookup {t:TypeId} {x ix:Operand} {ok:Bool}:opVc c τ ⟨dst,.lookup t x ix ok,ty,pos,after,g⟩ st K = bindK (st.ev x) fun x=>bindK (st.ev ix).key fun ix=>bindK (τ t).mp fun m=>match x,ix,m with
  | .mp k q,some key,some (e,kd)=>bindK ((st.tree k).at_ q) fun d=>match d with
   | .map _ _ s=>mkeysOk kd s∧kd.is key∧bindK (mfind key s) fun r=>match r with
    | some v=>okRow v false = true∧bindK (AV.ofD st.pl k (q ++ [.i (mix key s),.f 1]) 0 v) fun av=>K (pairAV ok true av) st
    | none=>bindK (τ e).zero fun z=>match z with
     | some g=>bindK (AV.ofZ g) fun av=>av.oneAgg = true∧K (pairAV ok false av) st
     | none=>False
   | _=>False
  | .val (.map none),some key,some (e,kd)=>kd.is key∧bindK (τ e).zero fun z=>match z with
   | some g=>bindK (AV.ofZ g) fun av=>av.oneAgg = true∧K (pairAV ok false av) st
   | none=>False
  | _,_,_=>False:=rfl
theorem op_mapUpdate {t:TypeId} {m x y:Operand}:opVc c τ ⟨dst,.mapUpdate t m x y,ty,pos,after,g⟩ st K = bindK (st.ev m) fun m=>bindK (st.ev x).key fun x=>bindK (τ t).mp fun p=>match m,x,p with
  | .mp k [],some key,some (e,kd)=>bindK (st.X[k]?) fun r=>match r with
   | some (.map true () s)=>mkeysOk kd s∧kd.is key∧bindK (st.evT τ e y) fun y=>match y with
    | .mp k2 q=>q = []∧bindK (st.X[k2]?) fun r2=>match r2 with
     | some (.map true () s2)=>k2≠k∧c.F0.length≤k2∧K .bad (st.entries c.F0.length k (mput key (.map true () s2) s) [(k2,[])] (st.X.set k2 (.junk ())))
     | _=>False
    | y=>bindK y.flat fun d=>match d with
     | some d=>K .bad (st.entries c.F0.length k (mput key d s) [] st.X)
     | none=>False
   | _=>False
  | _,_,_=>False:=rfl
theorem op_delete {x y:Operand} {t u:TypeId}:opVc c τ ⟨dst,.call ⟨.builtin .delete,#[x,y],#[t,u]⟩,ty,pos,after,g⟩ st K = bindK (st.ev x) fun m=>bindK (st.ev y).key fun x=>bindK (τ t).mp fun p=>match m,x,p with
  | .mp k [],some key,some (_,kd)=>bindK (st.X[k]?) fun r=>match r with
   | some (.map true () s)=>mkeysOk kd s∧kd.is key∧K (.tup .nil) (st.entries c.F0.length k (mdel key s) [] st.X)
   | _=>False
  | _,_,_=>False:=rfl
theorem op_clear {x:Operand} {t:TypeId}:opVc c τ ⟨dst,.call ⟨.builtin .clear,#[x],#[t]⟩,ty,pos,after,g⟩ st K = bindK (st.ev x) fun x=>bindK (τ t).sl fun s=>match x,s with
  | .sub k [] lo n _,some (e,z,_,_)=>bindK (st.X[k]?) fun r=>bindK (τ e).zero fun g=>match r,g with
   | some (.sl true () z' s),some g=>z' = z∧lo + n = s.len ∧
     K (.tup .nil) { env:=st.env.kill [(k,[.i 0])],X:=st.X.set k (.sl true () z ((s.take lo).app (sq0 (List.replicate n g.erase)))),κ:=(bif Nat.ble c.F0.length k then [] else [(k,[.i 0])]) ++ st.κ,pl:=plKill [(k,[.i 0])] st.pl }
   | _,_=>False
  | _,_=>False:=rfl
end
theorem sq0_eq {α:Type} (l:List (T α)):sq0 l = sq l:=by induction l with
 | nil=>rfl
 | cons a l ih=>simp [sq0,sq,ih]
theorem isKey_int (k k':IntKind) (n:Int):(KK.int k).is (.int k' n) = (k' = k):=rfl
theorem isKey_str (s:ByteArray):KK.str.is (.string s) = True:=rfl
theorem isKey_two (a b:Int):KK.two.is (.agg #[.int .i64 a,.int .i64 b]) = True:=eq_true ⟨a,b,rfl⟩
theorem key_val (v:Value):(AV.val v).key = some v:=rfl
theorem key_two (a b:Value):(AV.agg (.cons (.val a) (.cons (.val b) .nil))).key = some (.agg #[a,b]):=rfl
theorem isVal_1 (p:Path):T.isVal (.f 1 :: p) = true:=rfl
theorem oneAgg_val (v:Value):(AV.val v).oneAgg = true:=rfl
theorem oneAgg_nils (z:Nat):(AV.nils z).oneAgg = true:=rfl
theorem oneAgg_agg (s:AV):(AV.agg s).oneAgg = true:=rfl
theorem chill_val (v:Value):(AV.val v).chill = .val v:=rfl
theorem chill_nil:AV.nil.chill = .nil:=rfl
theorem chill_imm (z:Nat) (s:D) (ex:Bool):(AV.imm z s ex).chill = .imm z s ex:=rfl
theorem chill_ptr (k:Nat) (q:Path):(AV.ptr k q).chill = .ptr k q:=rfl
set_option linter.defProp false
def r_chill_val:=@chill_val
def r_chill_nil:=@chill_nil
def r_chill_imm:=@chill_imm
def r_chill_ptr:=@chill_ptr
def r_op_makeFunc:=@op_makeFunc
def r_op_makeMap:=@op_makeMap
def r_op_cap:=@op_cap
def r_op_min:=@op_min
def r_op_max:=@op_max
def r_op_makeSlice:=@op_makeSlice
def r_op_zap:=@op_zap
def r_op_lookup:=@op_lookup
def r_op_mapUpdate:=@op_mapUpdate
def r_op_clear:=@op_clear
def r_op_delete:=@op_delete
def r_isKey_two:=@isKey_two
def r_isVal_1:=@isVal_1
def r_key_val:=@key_val
def r_key_two:=@key_two
def r_one_val:=@oneAgg_val
def r_one_nils:=@oneAgg_nils
def r_one_agg:=@oneAgg_agg
def r_entries:=@St.entries.eq_1
def r_flat_4:=@AV.flat.eq_4
def r_flatS_1:=@AV.flatS.eq_1
def r_flatS_2:=@AV.flatS.eq_2
def r_flatS_3:=@AV.flatS.eq_3
def r_flatS_4:=@AV.flatS.eq_4
def r_flatS_5:=@AV.flatS.eq_5
def r_flatS_6:=@AV.flatS.eq_6
def r_sq0:=@sq0_eq
def r_isKey_int:=@isKey_int
def r_isKey_str:=@isKey_str
def r_seqOf_1:=@seqOf.eq_1
def r_seqOf_2:=@seqOf.eq_2
def r_pair_1:=@pairAV.eq_1
def r_flat_1:=@AV.flat.eq_1
def r_flat_2:=@AV.flat.eq_2
def r_flat_3:=@AV.flat.eq_3
def r_erase_1:=@T.erase.eq_1
def r_erase_3:=@T.erase.eq_3
def r_erase_4:=@T.erase.eq_4
def r_erase_5:=@T.erase.eq_5
def r_erase_6:=@T.erase.eq_6
def r_isSl_1:=@AV.isSl.eq_1
def r_isSl_2:=@AV.isSl.eq_2
def r_isSl_3:=@AV.isSl.eq_3
def r_chill_1:=@AV.chill.eq_1
def r_chill_2:=@AV.chill.eq_2
def r_chill_3:=@AV.chill.eq_3
def r_chill_4:=@AV.chill.eq_4
attribute [simp] r_chill_val r_chill_nil r_chill_imm r_chill_ptr r_op_zap r_op_makeFunc r_op_makeMap r_op_cap r_op_min r_op_max r_op_makeSlice r_op_lookup r_op_mapUpdate r_op_clear r_sq0 r_isKey_int r_isKey_str r_seqOf_1 r_seqOf_2 r_pair_1 r_op_delete r_isKey_two r_isVal_1 r_key_val r_key_two r_one_val r_one_nils r_one_agg r_entries r_flat_4 r_flatS_1 r_flatS_2 r_flatS_3 r_flatS_4 r_flatS_5 r_flatS_6 r_flat_1 r_flat_2 r_flat_3 r_isSl_1 r_isSl_2 r_isSl_3
attribute [simp] r_erase_1 r_erase_3 r_erase_4 r_erase_5 r_erase_6 r_chill_1 r_chill_2 r_chill_3 r_chill_4
end Go.Vc

/- Functions that are handed boxes with borrowed values in them (closures over a receiver): a contract may say what lies there. -/
namespace Go.Vc
set_option linter.all false
open T (hdr blk)
def MeetsP (P:Program) (f:FuncId) (Y:List D) (pl:List (Nat×Path×AV)) (args:AV) (R:AV→List D→List (Nat×Path)→Prop):Prop :=
 HasBody P f∧∀ (w:World) (I:Nat→Prop) (F0:List G) (vs:List Value),F0.map T.erase = Y→(∀ g∈F0,T.Holds w.heap I g)→(own F0).Nodup→(∀ b∈own F0,¬ I b)→(∀ b∈own F0,b < w.heap.size) →
  (∀ b,I b→b < w.heap.size)→PlOk pl w I F0→Rl w.heap I F0 args true vs →
  Calls P f vs.toArray w fun e w'=>∃ v av X κ I' F',e = .returned v∧R av X κ∧Inv ⟨P,0,w,I,F0⟩ X κ w' I' F'∧Rl w'.heap I' F' av true [v]
theorem Meets.withP {P:Program} {f:FuncId} {Y:List D} {args:AV} {R:AV→List D→List (Nat×Path)→Prop} (h:Meets P f Y args R) (pl:List (Nat×Path×AV)):MeetsP P f Y pl args R :=
 ⟨h.1,fun w I F0 vs h1 h2 h3 h4 h5 h6 _ h7=>h.2 w I F0 vs h1 h2 h3 h4 h5 h6 h7⟩
theorem MeetsP.mono {P:Program} {f:FuncId} {Y:List D} {pl:List (Nat×Path×AV)} {args:AV} {R R':AV→List D→List (Nat×Path)→Prop} (h:MeetsP P f Y pl args R) (hr:∀ av X κ,R av X κ→R' av X κ):MeetsP P f Y pl args R' :=
 ⟨h.1,fun w I F0 vs h1 h2 h3 h4 h5 h6 hp h7=>Calls.mono (h.2 w I F0 vs h1 h2 h3 h4 h5 h6 hp h7) fun _ _ ⟨v,av,X,κ,I',F',e1,e2,e3,e4⟩=>⟨v,av,X,κ,I',F',e1,hr _ _ _ e2,e3,e4⟩⟩
def plsOk (st:St) (pls:List (Nat×Path)):List (Nat×Path×AV)→Prop
 | []=>True
 | (i,q,av) :: t=>(match pls[i]? with | some e=>(e.1,e.2 ++ q,av.emb pls st.X.length)∈st.pl | none=>False)∧av.okArg pls.length = true∧plsOk st pls t
theorem plsOk_spec {st:St} {pls:List (Nat×Path)} {w:World} {I:Nat→Prop} {F:List G} (hhead:∀ e∈pls,(F.getD e.1 .nil).okp e.2 = true∧isHead ((F.getD e.1 .nil).at_ e.2) = true) (hp:PlOk st.pl w I F) :
  ∀ {pl:List (Nat×Path×AV)},plsOk st pls pl→PlOk pl w I (nodes F pls)
 | [],_=>fun _ _ _ h=>by cases h
 | (i,q,av) :: t,h=>fun k q' av' hm=>by
  obtain ⟨h1,h2,h3⟩:=h
  rcases List.mem_cons.1 hm with e | hm
  ·cases e
   split at h1
   ·rename_i e he
    obtain ⟨g,v,g1,g2,g3⟩:=hp _ _ _ h1
    refine ⟨(F.getD e.1 .nil).at_ e.2,v,?_,?_,emb_args hhead av h2 g3⟩
    ·rw [nodes,List.getElem?_map,he];rfl
    ·rw [List.getD_eq_getElem?_getD,g1,←g2,T.at_append];rfl
   ·exact h1.elim
  ·exact plsOk_spec hhead hp h3 k q' av' hm
theorem MeetsP.call {c:Cx} {f:FuncId} {Y:List D} {pl:List (Nat×Path×AV)} {args:AV} {R:AV→List D→List (Nat×Path)→Prop} (h:MeetsP c.P f Y pl args R) {st:St} {avs:AV} {K:AV→St→Prop} (pls:List (Nat×Path))
  (hn:(pls.map (·.1)).Nodup) (hpl:placesOk st pls Y) (ha:args.emb pls st.X.length = avs) (hok:args.okArg pls.length = true)
  (hx:pls = []∨avs.still = false) (hq:plsOk st pls pl) (hK:∀ av X κ,R av X κ→K (av.emb pls st.X.length) (st.after c.F0.length pls X κ)):CallW c f avs st K:=by
 intro a w vs ⟨hd,hs,I,F,hi,he,hp,hxs⟩
 refine ⟨h.1,?_⟩
 obtain ⟨p1,p2,p3⟩:=placesOk_spec hpl
 have hFl:F.length = st.X.length:=by rw [←hi.erase];simp
 have htree:∀ k,st.tree k = (F.getD k .nil).erase:=fun k=>by
  rw [St.tree,←hi.erase,List.getD_eq_getElem?_getD,List.getElem?_map,List.getD_eq_getElem?_getD]
  cases F[k]? <;> rfl
 have hokF:∀ e∈pls,e.1 < F.length∧(F.getD e.1 .nil).okp e.2 = true∧T.noEntry false (F.getD e.1 .nil) e.2 = true:=fun e he=>by
  obtain ⟨h1,h2,h3,_⟩:=p2 e he
  rw [htree,T.okp_erase] at h2
  rw [htree,T.noEntry_erase] at h3
  exact ⟨by omega,h2,h3⟩
 have hhead:∀ e∈pls,(F.getD e.1 .nil).okp e.2 = true∧isHead ((F.getD e.1 .nil).at_ e.2) = true:=fun e he=>by
  obtain ⟨h1,h2,h3,h4⟩:=p2 e he
  rw [htree,←T.erase_at,isHead_erase] at h4
  exact ⟨(hokF e he).2.1,h4⟩
 have hY:(nodes F pls).map T.erase = Y:=by
  rw [←p3,nodes,List.map_map]
  exact List.map_congr_left fun e he=>by simp only [Function.comp_apply,htree,T.erase_at]
 subst ha
 have hargs:=emb_args hhead args hok hxs
 have hsub:∀ b,(own (nodes F pls)).count b≤(own F).count b:=fun b=>by
  have h3:=back_count b pls (pls.map fun _=>T.nil) F hn (by simp) fun e he=>⟨(hokF e he).1,(hokF e he).2.1⟩
  have hz:(own (pls.map fun _=>(T.nil:G))).count b = 0:=by rw [own_nils];rfl
  omega
 have hmem:∀ b∈own (nodes F pls),b∈own F:=fun b hb=>by have:=hsub b;rw [mem_of_count] at *;omega
 refine Calls.mono (h.2 w I (nodes F pls) vs hY (fun g hg=>?_) (nodup_of_count fun b=>Nat.le_trans (hsub b) (count_le_one hi.nodup b)) (fun b hb=>hi.apart b (hmem b hb)) (fun b hb=>hi.lt b (hmem b hb)) hi.ilt (plsOk_spec hhead hp hq) hargs) ?_
 ·simp only [nodes,List.mem_map] at hg
  obtain ⟨e,he,rfl⟩:=hg
  have h1:=(hokF e he).1
  refine T.Holds.at_ (hi.holds _ ?_) e.2
  rw [List.getD_eq_getElem?_getD,List.getElem?_eq_getElem h1];exact List.getElem_mem h1
 ·rintro e w' ⟨v,av,X,κ,I',F',rfl,hR,hc,hv⟩
  have S:=Stp.call hi hn hokF hc
  have hres:=emb_res (F':=F') hn (fun e he=>⟨(hokF e he).1,(hokF e he).2.1⟩) av hv
  refine ⟨v,_,_,rfl,hK av X κ hR,⟨hd.step hi S,hs,I',joined pls F' F,?_,he.step hi S,hp.step hi S,by rw [←hFl];exact hres⟩,fun hst b hb=>?_⟩
  rotate_left
  ·rcases hx with hx | hx
   ·subst hx;exact hc.frame b hb (by simp [nodes,own])
   ·rw [hst] at hx;cases hx
  have h2:=hi.step S
  have herase:(joined pls F' F).map T.erase = (st.after c.F0.length pls X κ).X:=by
   simp only [joined,St.after,List.map_append,back_erase,hi.erase,List.map_take,List.map_drop,hc.erase]
  rw [herase] at h2
  refine h2.rekill fun k q s hk hdd=>?_
  simp only [St.after] at hdd
  rw [dead_append,Bool.or_eq_false_iff] at hdd ⊢
  refine ⟨?_,hdd.2⟩
  have h3:=hdd.1
  unfold dead at h3 ⊢
  rw [List.any_eq_false] at h3 ⊢
  rintro ⟨k0,q0⟩ hm hx
  refine h3 (k0,q0) (List.mem_filter.2 ⟨hm,?_⟩) hx
  simp only [Bool.and_eq_true,beq_iff_eq] at hx
  rw [←hx.1]
  exact Nat.ble_eq_true_of_le hk
theorem MeetsP.of_vc {P:Program} {τ:Tab} (hτ:Tab.Ok P τ) {f:FuncId} {fn:Func} {body:Code} {Y:List D} {pl:List (Nat×Path×AV)} {args:AV} {R:AV→List D→List (Nat×Path)→Prop}
  (hf:P.funcs[f]? = some fn) (hb:fn.body = some body) (hname:(fn.name == "runtime.NumGoroutine") = false) {nt:Nat} (hnt:fn.ntmps = nt) {rs:List ResultVar} (hrs:fn.results.toList = rs)
  (hl:args.isList = true) (hlen:args.len≤nt)
  (h:∀ w0 I0 F0,F0.length = Y.length→VC ⟨P,nt,w0,I0,F0⟩ body (retK τ rs R) ⟨envOf 0 args,Y,[],pl⟩):MeetsP P f Y pl args R:=by
 refine ⟨⟨fn,hf,by rw [hb];rfl,hname⟩,fun w I F0 vs hY hH hnd hap hlt hil hpl hx=>?_⟩
 subst hnt
 subst hrs
 have hvl:=Rl.list_len hl hx
 refine callsIn_wide.1 (callsIn_of_wp_marks (F:=Fence.wide) (n:=0) hf hb trivial (wpIn_wide.2 ?_))
 have hrel:Rel ⟨P,fn.ntmps,w,I,F0⟩ ⟨envOf 0 args,Y,[],pl⟩ { tmps:=vs.toArray ++ Array.replicate (fn.ntmps - vs.toArray.size) undef,defers:=[] } w:=by
  refine ⟨Dfs.none _ _,by simp;omega,I,F0,⟨hY,hH,hnd,hap,hlt,hil,rfl,rfl,rfl,Nat.le_refl _,fun _ _ _=>rfl,fun b hb _=>hb,fun _ h=>h,fun _ h=>.inl h,
   fun k g0 hg=>⟨g0,hg,rfl,fun _ _=>rfl,fun _ _=>rfl,fun _ _ h _=>h⟩⟩,fun t=>?_,hpl⟩
  rcases Nat.lt_or_ge t vs.length with htl | htl
  ·refine envOf_ok 0 t hl hx _ (fun _=>?_) (fun h=>by omega)
   rw [List.getElem?_eq_getElem (by omega)]
   simp only [Array.getD_eq_getD_getElem?]
   rw [Array.getElem?_append_left (by simpa using htl)]
   simp [htl]
  ·rw [envOf_bad 0 t hl (by omega)];exact ⟨_,rfl⟩
 have hend:∀ (st:St) a w',(resVc τ st fn.results.toList fun s=>R (retOf s) st.X st.κ)→Rel ⟨P,fn.ntmps,w,I,F0⟩ st a w' →
   LeavesInM Fence.wide 0 P fn a.tmps (fun e w'=>∃ v' av X κ I' F',e = .returned v'∧R av X κ∧Inv ⟨P,0,w,I,F0⟩ X κ w' I' F'∧Rl w'.heap I' F' av true [v']) a.defers .returning w':=by
  intro st a w0' h1 ⟨⟨Ds,hds,hdn,hdD⟩,hs,I0',F',hi0,he0,hp0⟩
  rw [hds]
  refine leaves_marks Ds w0' hdn (fun D hD=>(hdD D hD).2) fun w' hshut=>?_
  obtain ⟨I',hi,he,hp⟩:=Rel.shut (c:=⟨P,fn.ntmps,w,I,F0⟩) hil hi0 he0 hp0 (fun D hD=>⟨(hdD D hD).1,_,(hdD D hD).2,trivial⟩) hshut
  obtain ⟨s,ws,g1,g2,g3,g4⟩:=results_ok (c:=⟨P,fn.ntmps,w,I,F0⟩) hτ hi he hp _ _ h1
  have hi':Inv ⟨P,0,w,I,F0⟩ st.X st.κ w' I' F':=⟨hi.erase,hi.holds,hi.nodup,hi.apart,hi.lt,hi.ilt,hi.os,hi.tape,hi.output,hi.size,hi.frame,hi.fresh,hi.imono,hi.inew,hi.base⟩
  have hm:(fn.results.mapM (resOf a.tmps)).run P w' = .ok ws.toArray w':=by
   rw [←Array.toArray_toList (xs:=fn.results),Array.mapM_eq_mapM_toList]
   simp only [Sem.run_map]
   rw [g4];rfl
  have hres:∃ v,(results fn a.tmps).run P w' = .ok v w'∧Rl w'.heap I' F' (retOf s) true [v]:=by
   rw [results_eq]
   simp only [Sem.run_bind,hm,Result.andThen_ok,Sem.run_pure]
   refine ⟨_,rfl,?_⟩
   cases s with
   | nil=>cases g2;exact ⟨[],rfl,rfl⟩
   | cons x r =>
    obtain ⟨v,vs',e,k1,k2⟩:=id g2
    subst e
    cases r with
    | nil=>cases k2;simpa [retOf] using k1
    | cons y r =>
     obtain ⟨v2,vs2,e2,_,_⟩:=id k2
     subst e2
     simp only [retOf]
     exact ⟨v :: v2 :: vs2,by simp,g2⟩
    | _=>cases g3
   | _=>cases g3
  obtain ⟨v,g5,g6⟩:=hres
  exact ⟨v,g5,v,_,_,_,I',F',rfl,g1,hi',g6⟩
 refine wp_mono (h w I F0 (by rw [←hY];simp) _ w hrel) fun e a w' ⟨st,h1,h2⟩=>?_
 cases e with
 | normal=>exact hend st a w' h1 h2
 | ret=>exact hend st a w' h1 h2
 | _=>exact h1.elim
theorem MeetsP.of_vs {P:Program} {τ:Tab} (hτ:Tab.Ok P τ) {f:FuncId} {fn:Func} {body:Code} {Y:List D} {pl:List (Nat×Path×AV)} {args:AV} {R:AV→List D→List (Nat×Path)→Prop}
  (hf:P.funcs[f]? = some fn) (hb:fn.body = some body) (hname:(fn.name == "runtime.NumGoroutine") = false) {nt:Nat} (hnt:fn.ntmps = nt) {rs:List ResultVar} (hrs:fn.results.toList = rs)
  (hl:args.isList = true) (hlen:args.len≤nt) {st:St} (hst:⟨envOf 0 args,Y,[],pl⟩ = st)
  (h:∀ w0 I0 F0,F0.length = Y.length→VS ⟨P,nt,w0,I0,F0⟩ [body] (endK Y.length τ rs R) st):MeetsP P f Y pl args R :=
 MeetsP.of_vc hτ hf hb hname hnt hrs hl hlen fun w0 I0 F0 hF=>by
  subst hst
  refine VC.mono' (K:=thenK (VS ⟨P,nt,w0,I0,F0⟩ [] (endK Y.length τ rs R)) (endK Y.length τ rs R)) (by with_unfolding_all exact h w0 I0 F0 hF) fun e st' a w hk hr=>?_
  have key:endK Y.length τ rs R e st'→∃ st'',retK τ rs R e st''∧Rel ⟨P,nt,w0,I0,F0⟩ st'' a w:=fun ⟨ts,sel,κ',h1,h2,h3⟩ =>
   have ⟨g1,g2,I,F,hi,he,hp⟩:=hr.pick ts (sel:=sel) (by rw [←hF] at h1;exact h1)
   ⟨_,h3,g1,g2,I,F,hi.rekill (κ':=κ') (fun _ _ _ _ hd=>dead_covers (by simpa [St.pick] using h2) hd),he,hp⟩
  cases e with
  | normal =>
   have h1:VS _ [] _ st':=hk
   exact key (by with_unfolding_all exact h1)
  | ret=>exact key hk
  | _=>exact key hk
theorem MeetsP.goP {c:Cx} {f:FuncId} {Y:List D} {pl:List (Nat×Path×AV)} {args:AV} {R:AV→List D→List (Nat×Path)→Prop} (h:MeetsP c.P f Y pl args R) {st:St} {avs:AV} {K:AV→St→Prop} (pls:List (Nat×Path))
  (hc:(pls.map (·.1)).Nodup∧placesOk st pls Y∧args.emb pls st.X.length = avs∧args.okArg pls.length = true∧(pls = []∨avs.still = false)∧plsOk st pls pl) (hK:∀ av X κ,R av X κ→K (av.emb pls st.X.length) (st.after c.F0.length pls X κ)):CallW c f avs st K :=
 h.call pls hc.1 hc.2.1 hc.2.2.1 hc.2.2.2.1 hc.2.2.2.2.1 hc.2.2.2.2.2 hK
end Go.Vc

/- What runs in a round of a loop over a function. -/
namespace Go.Vc
set_option linter.all false
open T (hdr blk)
section
variable {lo n:Nat} {P:Program} {o:Oper} {a:Act} {w w':World} {next:Act→World→Prop} {Q:Exit→Act→World→Prop}
theorem not_defer {x:Next} (h:(execOp a.eval o).run P w = .ok x w') (hx:∀ d,x≠.defer d):∀ c,o.op≠.defer c:=fun c e=>by
 obtain ⟨dst,op,ty,pos,after,guard⟩:=o
 simp only at e
 subst e
 simp only [execOp,Sem.run_bind,Sem.run_pure] at h
 cases hr:(resolve a.eval c ty).run P w with
 | ok d w2=>rw [hr] at h;simp only [Result.andThen_ok,Sem.run_pure,Result.ok.injEq] at h;exact hx _ h.1.symm
 | halt=>rw [hr] at h;cases h
theorem in_value {v:Value} (h:(execOp a.eval o).run P w = .ok (.value v) w') (hn:next (a.put o.dst v) w'):o.wpIn (Fence.wide.inRound lo) n P a w next Q :=
 ⟨fun _ _=>trivial,by
  rw [show (Fence.wide.inRound lo).round = some lo from rfl,Oper.semAt_some lo _ o (not_defer h fun d=>by simp),h]
  exact hn⟩
theorem in_skip (h:(execOp a.eval o).run P w = .ok .skip w') (hn:next (a.put o.dst undef) w'):o.wpIn (Fence.wide.inRound lo) n P a w next Q :=
 ⟨fun _ _=>trivial,by
  rw [show (Fence.wide.inRound lo).round = some lo from rfl,Oper.semAt_some lo _ o (not_defer h fun d=>by simp),h]
  exact hn⟩
theorem in_enter {f:FuncId} {args:Array Value} (h:(execOp a.eval o).run P w = .ok (.enter f args) w') (hn:Calls P f args w' fun
  | .returned v,w''=>next (a.put o.dst v) w''
  | .panicked chain,w''=>Q (.panic chain) a w''
  | .outgrown,_=>LetsOut Q):o.wpIn (Fence.wide.inRound lo) n P a w next Q :=
 ⟨fun _ _=>trivial,by
  rw [show (Fence.wide.inRound lo).round = some lo from rfl,Oper.semAt_some lo _ o (not_defer h fun d=>by simp),h,Oper.uponIn_enter]
  exact ⟨fun h=>by simp [Fence.wide] at h,CallsIn.inRound lo (callsIn_wide.2 hn)⟩⟩
end
theorem op_okIn {lo n:Nat} {c:Cx} {τ:Tab} (hτ:Tab.Ok c.P τ) {st:St} {a:Act} {w:World} (h:Rel c st a w) {o:Oper} {K:AV→St→Prop} (hv:opVc c τ o st K) {next:Act→World→Prop} {Q:Exit→Act→World→Prop}
  (hn:∀ av v st' w',K av st'→RelR c st' av v a w'→(extOp o.op = true∨callStill τ st o.op = true→Ext w w')→next (a.put o.dst v) w'):o.wpIn (Fence.wide.inRound lo) n c.P a w next Q:=by
 obtain ⟨hd,hs,I,F,hi,he,hp⟩:=id h
 have value:∀ av v st',K av st'→RelR c st' av v a w→(execOp a.eval o).run c.P w = .ok (.value v) w→o.wpIn (Fence.wide.inRound lo) n c.P a w next Q:=fun av v st' h1 h2 h3=>by
  refine in_value h3 (hn av v st' w h1 h2 fun _ _ _=>rfl)
 have eff:effVc τ c.F0.length o.op st K→o.wpIn (Fence.wide.inRound lo) n c.P a w next Q:=fun hv=>by
  obtain ⟨av,st',v,w',n,h1,h2,h3,h4,h5⟩:=eff_ok hτ h hv
  have h5':extOp o.op = true∨callStill τ st o.op = true→Ext w w':=fun h=>h.elim h5 fun h=>by rw [eff_still hv] at h;cases h
  rcases h3 with rfl | ⟨rfl,rfl⟩
  ·exact in_value h2 (hn av v st' w' h1 h4 h5')
  ·exact in_skip h2 (hn av undef st' w' h1 h4 h5')
 have neww:newVc τ c.F0.length o.op st K→o.wpIn (Fence.wide.inRound lo) n c.P a w next Q:=fun hv=>by
  obtain ⟨av,st',v,w',n,h1,h2,h3,h4,h5⟩:=new_ok hτ h hv
  have h5':extOp o.op = true∨callStill τ st o.op = true→Ext w w':=fun h=>h.elim h5 fun h=>by rw [new_still hv] at h;cases h
  rcases h3 with rfl | ⟨rfl,rfl⟩
  ·exact in_value h2 (hn av v st' w' h1 h4 h5')
  ·exact in_skip h2 (hn av undef st' w' h1 h4 h5')
 have pure:∀ {K':AV→Prop},(∀ av,K' av→K av st)→pureVc τ o.op o.type st K'→o.wpIn (Fence.wide.inRound lo) n c.P a w next Q:=fun hk hv=>by
  obtain ⟨av,v,h1,h2,h3⟩:=pure_ok hτ hi he hv
  exact value av v st (hk _ h1) ⟨hd,hs,I,F,hi,he,hp,h2⟩ (h3 w)
 unfold opVc at hv
 split at hv
 ·rename_i t x ho
  obtain ⟨av,v,h1,h2,h3⟩:=load_ok hτ hi he hp (o:=o) (K:=fun av=>K av st) (by rw [ho];exact hv)
  exact value av v st h1 ⟨hd,hs,I,F,hi,he,hp,h2⟩ (h3 w fun _ _=>rfl)
 ·rename_i ho;exact eff (by rw [ho];exact hv)
 ·rename_i ho;exact eff (by rw [ho];exact hv)
 ·rename_i ho;exact eff (by rw [ho];exact hv)
 ·rename_i ho;exact eff (by rw [ho];exact hv)
 ·rename_i t parts ho
  obtain ⟨av,v,h1,h2,h3⟩:=build_ok hτ he hv
  refine value av v st h1 ⟨hd,hs,I,F,hi,he,hp,h2⟩ ?_
  obtain ⟨dst,op,ty,pos,after,guard⟩:=o
  simp only at ho;subst ho
  simp [execOp,h3]
 ·rename_i t x lo hi' mx ho
  obtain ⟨hm,hv⟩:=hv
  have opt:∀ (x:Option Operand),RlO w.heap I F (x.map st.ev) (x.map a.eval):=fun x=>by
   cases x with
   | none=>trivial
   | some x=>exact he.ev x
  obtain ⟨av,v,h1,h2,h3⟩:=slice_ok hτ hi (he.evT (τ:=τ) t x) (opt lo) (opt hi') (opt mx) (by simpa using hm) hv
  refine value av v st h1 ⟨hd,hs,I,F,hi,he,hp,h2⟩ ?_
  obtain ⟨dst,op,ty,pos,after,guard⟩:=o
  simp only at ho;subst ho
  simp [execOp,h3]
 ·rename_i cc ho
  split at hv
  ·split at hv
   ·exact neww (by rw [ho];exact hv)
   ·exact eff (by rw [ho];exact hv)
  ·exact neww (by rw [ho];exact hv)
  ·exact neww (by rw [ho];exact hv)
  ·rename_i f hcal
   split at hv
   case h_2=>exact hv.elim
   rename_i g s hf
   obtain ⟨hsq,hv⟩:=hv
   have hfv:=he.ev f
   rw [hf] at hfv
   obtain ⟨l,h1,h2⟩:=hfv
   have hargs:=argsOf_app (τ:=τ) he h2 cc.args.toList cc.argTypes.toList
   obtain ⟨hb,hcalls⟩:=hv a w _ ⟨hd,hs,I,F,hi,he,hp,hargs⟩
   injection h1 with h1 _
   obtain ⟨dst,op,ty,pos,after,guard⟩:=o
   simp only at ho;subst ho
   have hrun:(execOp a.eval ⟨dst,.call cc,ty,pos,after,guard⟩).run c.P w = .ok (.enter g (cc.args.toList.map a.eval ++ l).toArray) w:=by
    have harr:cc.args.map a.eval ++ l.toArray = (cc.args.toList.map a.eval ++ l).toArray:=by apply Array.ext';simp
    simp [execOp,resolve,hcal,h1,Deferred.ofValue,invoke,run_callFunc hb,harr]
   refine in_enter hrun (Calls.mono hcalls fun e w' he'=>?_)
   obtain ⟨v,av,st',rfl,k1,k2,k3⟩:=he'
   refine hn av v st' w' k1 k2 fun h=>?_
   rcases h with h | h
   ·simp [extOp,hcal] at h
   ·exact k3 (by simpa [callStill,hcal,hf,fnStill] using h)
  ·exact pure (K':=fun av=>K av st) (fun _ h=>h) (by rw [ho];exact hv)
 ·rename_i op t x y ty ho
  split at hv
  ·rename_i s u hx hy
   obtain ⟨hop,b,⟨h1,h2⟩,h3⟩:=hv
   have hxv:=he.ev x
   have hyv:=he.ev y
   rw [hx] at hxv
   rw [hy] at hyv
   obtain ⟨xs,e1,r1⟩:=hxv
   obtain ⟨ys,e2,r2⟩:=hyv
   injection e1 with e1 _
   injection e2 with e2 _
   have hr:=h2 w.heap I F xs ys w r1 r2
   obtain ⟨dst,op',ty',pos,after,guard⟩:=o
   simp only at ho;subst ho
   rcases hop with rfl | rfl
   ·refine value _ (.bool b) st h3 ⟨hd,hs,I,F,hi,he,hp,rfl,rfl⟩ ?_
    simp [execOp,eqGuard,h1,binOp,e1,e2,hr]
   ·refine value _ (.bool !b) st h3 ⟨hd,hs,I,F,hi,he,hp,rfl,rfl⟩ ?_
    simp [execOp,eqGuard,h1,binOp,e1,e2,hr]
  ·exact pure (K':=fun av=>K av st) (fun _ h=>h) (by rw [ho];exact hv)
 ·rename_i ho;exact neww (by rw [ho];exact hv)
 ·rename_i ho;exact neww (by rw [ho];exact hv)
 ·rename_i ho;exact neww (by rw [ho];exact hv)
 ·rename_i ho;exact neww (by rw [ho];exact hv)
 ·exact pure (K':=fun av=>K av st) (fun _ h=>h) hv
def wr (ops:List Oper) (t:Nat):Bool:=ops.any fun o=>o.dst == some t
theorem put_same {a:Act} {d:Option Tmp} {v:Value} {t:Nat} (h:d≠some t):(a.put d v).tmps.getD t undef = a.tmps.getD t undef:=by
 cases d with
 | none=>rfl
 | some d =>
  have hne:d≠t:=fun e=>h (by rw [e])
  simp [Act.put,Array.getD_eq_getD_getElem?,Array.getElem?_setIfInBounds_ne hne]
theorem ops_okIn {lo n:Nat} {c:Cx} {τ:Tab} (hτ:Tab.Ok c.P τ) {all:List Oper} {gs:List (Nat×Tmp)} (hgs:gsOk all gs = true) {Q:Exit→Act→World→Prop} {K:St→Prop} {a0:Act}
  (hQ:∀ st a w,K st→Rel c st a w→(a.defers = a0.defers∧∀ t,wr all t = false→a.tmps.getD t undef = a0.tmps.getD t undef)→Q .normal a w) :
  ∀ (l:List Oper) (i:Nat) (st:St) (a:Act) (w:World),dstsOk c.nt l = true→(∀ o∈l,∀ d,o.dst = some d→wr all d = true)→(a.defers = a0.defers∧∀ t,wr all t = false→a.tmps.getD t undef = a0.tmps.getD t undef) →
   Rel c st a w→vcOps c τ gs l i st K→wpListIn (Fence.wide.inRound lo) n c.P all.toArray Q l a w
 | [],_,st,a,w,_,_,hsame,h,hv=>hQ st a w hv h hsame
 | o :: r,i,st,a,w,hl,hsub,hsame,h,hv=>by
  simp only [dstsOk,List.all_cons,Bool.and_eq_true] at hl
  have hdst:∀ t,o.dst = some t→t < c.nt:=fun t ht=>by
   have:=hl.1;rw [ht] at this;exact Nat.le_of_ble_eq_true this
  have hput:∀ v,(a.put o.dst v).defers = a0.defers∧∀ t,wr all t = false→(a.put o.dst v).tmps.getD t undef = a0.tmps.getD t undef:=fun v=>⟨by rw [←hsame.1];cases o.dst <;> rfl,fun t ht=>by
   rw [put_same fun e=>by rw [hsub o List.mem_cons_self t e] at ht;cases ht]
   exact hsame.2 t ht⟩
  have hsub':∀ o∈r,∀ d,o.dst = some d→wr all d = true:=fun o ho=>hsub o (List.mem_cons_of_mem _ ho)
  unfold vcOps at hv
  unfold wpListIn
  split at hv
  ·rename_i hg
   rw [if_pos (guardOf_ok hgs h hg)]
   refine op_okIn hτ h hv fun av v st' w' h1 h2 _=>?_
   obtain ⟨st'',h3,h4⟩:=put_ok h1 h2 hdst
   exact ops_okIn hτ hgs hQ r (i + 1) st'' _ w' hl.2 hsub' (hput v) h4 h3
  ·rename_i hg
   rw [guardOf_ok hgs h hg]
   simp only [Bool.false_eq_true,if_false]
   obtain ⟨hd,hs,I,F,hi,he,hp⟩:=h
   exact ⟨fun _ _=>trivial,ops_okIn hτ hgs hQ r (i + 1) _ _ w hl.2 hsub' (hput undef) (RelR.put (av:=.tup .nil) (v:=undef) ⟨hd,hs,I,F,hi,he,hp,[],rfl,rfl⟩ hdst) hv⟩
  ·exact hv.elim
theorem region_in {lo n:Nat} {c:Cx} {τ:Tab} (hτ:Tab.Ok c.P τ) {id:Nat} {ops:List Oper} {K:St→Prop} {st:St} (gs:List (Nat×Tmp)) (hd:regOk c.nt ops gs = true)
  (h:vcOps c τ gs ops 0 st K) {a:Act} {w:World} (hr:Rel c st a w) :
  (Code.region id ops.toArray false).wpIn (Fence.wide.inRound lo) n c.P (fun e a' w'=>e = .normal∧∃ st',K st'∧Rel c st' a' w'∧a'.defers = a.defers∧∀ t,wr ops t = false→a'.tmps.getD t undef = a.tmps.getD t undef) a w:=by
 simp only [regOk,Bool.and_eq_true] at hd
 refine wpIn_region_list ?_
 have:=ops_okIn (lo:=lo) (n:=n) (a0:=a) (Q:=fun e a' w'=>e = .normal∧∃ st',K st'∧Rel c st' a' w'∧a'.defers = a.defers∧∀ t,wr ops t = false→a'.tmps.getD t undef = a.tmps.getD t undef) hτ hd.2
  (fun st' a' w' h1 h2 h3=>⟨rfl,st',h1,h2,h3⟩) ops 0 st a w hd.1 (fun o ho d e=>List.any_eq_true.2 ⟨o,ho,by simp [e]⟩) ⟨rfl,fun _ _=>rfl⟩ hr h
 simpa using this
end Go.Vc

/- A loop over a function. -/
namespace Go.Vc
set_option linter.all false
open T (hdr blk)
def VI (c:Cx) (code:Code) (K:St→Prop) (st:St):Prop :=
 ∀ (a:Act) (w:World) (lo n:Nat),Rel c st a w→code.wpIn (Fence.wide.inRound lo) n c.P (fun e a' w'=>e = .normal∧(∃ st',K st'∧Rel c st' a' w')∧a'.defers = a.defers) a w
theorem VI.region {c:Cx} {τ:Tab} (hτ:Tab.Ok c.P τ) {id:Nat} {ops:List Oper} {K:St→Prop} {st:St} (gs:List (Nat×Tmp)) (hd:regOk c.nt ops gs = true) (h:vcOps c τ gs ops 0 st K):VI c (.region id ops.toArray false) K st :=
 fun a w lo n hr=>wpIn_mono (region_in hτ gs hd h hr) fun _ _ _ ⟨h1,st',h2,h3,h4,_⟩=>⟨h1,⟨st',h2,h3⟩,h4⟩
theorem VI.ghost {c:Cx} {code:Code} {K:St→Prop} {st st':St} (hg:∀ a w,Rel c st a w→Rel c st' a w) (h:VI c code K st'):VI c code K st:=fun a w lo n hr=>h a w lo n (hg a w hr)
theorem VI.mono {c:Cx} {code:Code} {K K':St→Prop} {st:St} (h:VI c code K st) (hk:∀ st,K st→K' st):VI c code K' st :=
 fun a w lo n hr=>wpIn_mono (h a w lo n hr) fun _ _ _ ⟨h1,⟨st',h2,h3⟩,h4⟩=>⟨h1,⟨st',hk _ h2,h3⟩,h4⟩
theorem VI.mono' {c:Cx} {code:Code} {K K':St→Prop} {st:St} (h:VI c code K st) (hk:∀ st a w,K st→Rel c st a w→∃ st',K' st'∧Rel c st' a w):VI c code K' st :=
 fun a w lo n hr=>wpIn_mono (h a w lo n hr) fun _ _ _ ⟨h1,⟨st',h2,h3⟩,h4⟩=>⟨h1,hk _ _ _ h2 h3,h4⟩
theorem Inv.shut {c:Cx} {X:List D} {κ:List (Nat×Path)} {w w':World} {I:Nat→Prop} {F:List G} (hil:∀ b,c.I0 b→b < c.w0.heap.size) (hi:Inv c X κ w I F) {Ds:List Nat}
  (hD:∀ D∈Ds,c.w0.heap.size≤D∧∃ o,w.heap[D]? = some o∧book o) (s:Shut Ds w w'):∃ I',Inv c X κ w' I' F∧∀ {av m vs},Rl w.heap I F av m vs→Rl w'.heap I' F av m vs:=by
 have hown:∀ b∈own F,b∉Ds:=fun b hb hm=>by obtain ⟨_,o,h1,h2⟩:=hD b hm;exact own_not_book hi.holds h1 h2 hb
 have hlow:∀ b,b < c.w0.heap.size→b∉Ds:=fun b hb hm=>by have:=(hD b hm).1;omega
 have hlive:∀ b,live w.heap b→b∉Ds:=fun b hb hm=>by obtain ⟨_,o,h1,h2⟩:=hD b hm;exact hb o h1 h2
 have hI:∀ b,I b∧live w.heap b→w'.heap[b]? = w.heap[b]?:=fun b hb=>s.heap b (hi.ilt b hb.1) (hlive b hb.2)
 have hmono:∀ b,I b∧live w.heap b→I b∧(b < c.w0.heap.size∨live w.heap b):=fun b hb=>⟨hb.1,.inr hb.2⟩
 refine ⟨fun b=>I b∧(b < c.w0.heap.size∨live w.heap b),?_,fun {av m vs} H =>
  (Rl.live H).agree hI hmono (AV.all_of_alive (κ:=[]) (AV.dies_nil _) (fun _ _ _ _=>rfl) (fun _ _ _ _=>rfl) H)⟩
 exact ⟨hi.erase,fun g hg=>(Holds.live (hi.holds g hg)).agree (fun b hb=>s.heap b (hi.lt b (List.mem_flatMap.2 ⟨g,hg,hb⟩)) (hown b (List.mem_flatMap.2 ⟨g,hg,hb⟩))) hI hmono,hi.nodup,fun b hb h=>hi.apart b hb h.1,
  fun b hb=>Nat.lt_of_lt_of_le (hi.lt b hb) s.size,fun b hb=>Nat.lt_of_lt_of_le (hi.ilt b hb.1) s.size,s.os.trans hi.os,s.tape.trans hi.tape,s.output.trans hi.output,Nat.le_trans hi.size s.size,
  fun b h1 h2=>(s.heap b (Nat.lt_of_lt_of_le h1 hi.size) (hlow b h1)).trans (hi.frame b h1 h2),hi.fresh,fun b hb=>⟨hi.imono b hb,.inl (hil b hb)⟩,fun b hb=>hi.inew b hb.1,hi.base⟩
theorem PlOk.turn {pl:List (Nat×Path×AV)} {w w':World} {I I':Nat→Prop} {F:List G} (H:PlOk pl w I F) (h:∀ {av m vs},Rl w.heap I F av m vs→Rl w'.heap I' F av m vs):PlOk pl w' I' F :=
 fun k q av hm=>let ⟨g,v,h1,h2,h3⟩:=H k q av hm;⟨g,v,h1,h2,h h3⟩
theorem VI.lift {c:Cx} {code:Code} {K:St→Prop} {st:St} (k:Nat) (q:Path) (hlen:k < st.X.length) (hok:(st.tree k).okp q = true) (hn:isNode ((st.tree k).at_ q) = true)
  (hne:T.noEntry true (st.tree k) q = true) (h:VI c code K (st.lift c.F0.length k q)):VI c code K st:=VI.ghost (fun _ _ hr=>hr.lift hlen hok hn hne) h
theorem VI.block {c:Cx} {id:Nat} {code:Code} {K:St→Prop} {st:St} (h:VI c code K st):VI c (.block id code) K st:=fun a w lo n hr =>
 wpIn_block (wpIn_mono (h a w lo n hr) fun e a' w' ⟨h1,h2⟩=>by subst h1;exact ⟨rfl,h2⟩)
def AV.chilled (d0:D):AV→AV
 | .ptr 0 q=>match q,d0 with
  | [.d],.box true _ d=>.iptr d.freeze
  | _,_=>.bad
 | .ptr (k + 1) q=>.ptr k q
 | .sub 0 q lo n ex=>match q,d0 with
  | [],.sl true _ z s=>.imm z (s.mid lo n).freeze ex
  | [],_=>.bad
  | x :: q,d0=>match d0.at_ (x :: q) with
   | .sl true _ z s=>.imm z (s.mid lo n).freeze ex
   | _=>.bad
 | .sub (k + 1) q lo n ex=>.sub k q lo n ex
 | .mp 0 _=>.bad
 | .mp (k + 1) q=>.mp k q
 | .cons a t=>.cons (a.chilled d0) (t.chilled d0)
 | .agg s=>.agg (s.chilled d0)
 | .tup s=>.tup (s.chilled d0)
 | .fn f s=>.fn f (s.chilled d0)
 | a=>a
theorem Rl.chilled {h:Array Obj} {I I':Nat→Prop} {F:List G} {g0:G} (hg:T.Holds h I g0) (hI:∀ b,I b→I' b) (ho:∀ b∈g0.owned,I' b) {av:AV} :
  ∀ {m:Bool} {vs:List Value},Rl h I (g0 :: F) av m vs→Rl h I' F (av.chilled g0.erase) m vs:=by
 have hbad:∀ {m:Bool} {v:Value},v.oneCell' = true→Rl h I' F .bad m [v]:=fun {m v} hv=>by
  cases m
  ·exact ⟨v,rfl,hv⟩
  ·exact ⟨v,rfl⟩
 induction av with
 | bad=>intro m vs H;cases m <;> exact H
 | val v=>intro m vs H;cases m <;> exact H
 | nils z=>intro m vs H;cases m <;> exact H
 | cut z=>intro m vs H;cases m <;> exact H
 | ptr k q =>
  intro m vs H
  have H:∃ b o,locF (g0 :: F) k q = some (.abs b o)∧vs = [.pointer (some ⟨b,o,none⟩)]:=by cases m <;> exact H
  obtain ⟨b,o,h1,rfl⟩:=H
  cases k with
  | succ k=>cases m <;> exact ⟨b,o,by simpa [locF,AV.chilled] using h1,rfl⟩
  | zero =>
   simp only [AV.chilled]
   split
   ·rename_i d he
    obtain ⟨a,g,rfl⟩:∃ a g,g0 = .box true a g:=by
     cases g0 <;> simp only [T.erase] at he <;> cases he
     exact ⟨_,_,rfl⟩
    simp only [T.erase,T.box.injEq,true_and] at he
    obtain ⟨q1,q3,q4⟩:=id hg
    split at q4
    case h_2=>exact q4.elim
    rename_i x
    obtain ⟨k1,_,_,k2⟩:=q4
    obtain ⟨xb,xo,xs⟩:=x
    simp only at k1
    subst k1
    have hbo:b = xb∧o = xo:=by
     simp only [locF,List.getElem?_cons_zero,Option.bind_some,T.loc,T.headAt,Option.some.injEq,Loc.abs.injEq] at h1
     exact ⟨h1.1.symm,by omega⟩
    obtain ⟨rfl,rfl⟩:=hbo
    have hr:IptrRel h I' d.freeze (.pointer (some ⟨b,o,none⟩)) :=
     ⟨g.freeze,⟨b,o,none⟩,by rw [T.freeze_erase,he],q1.freeze hI (fun b hb=>ho b (by simp [T.owned,hb])),T.freeze_free g,rfl,rfl,ho b (by simp [T.owned,blk]),by rw [T.freeze_cells];exact k2⟩
    cases m <;> exact ⟨_,rfl,hr⟩
   ·exact hbad rfl
 | sub k q lo n ex =>
  intro m vs H
  have H:∃ own a z len v,hdrF (g0 :: F) k q = some (own,a,z,len)∧vs = [v]∧SubRel a z len lo n ex v:=by cases m <;> exact H
  obtain ⟨own,a,z,len,v,h1,rfl,h2⟩:=H
  cases k with
  | succ k=>cases m <;> exact ⟨own,a,z,len,v,by simpa [hdrF,AV.chilled] using h1,rfl,h2⟩
  | zero =>
   have main:∀ {z':Nat} {s:D},((g0.at_ q).erase = .sl true () z' s)→Rl h I' F (.imm z' (s.mid lo n).freeze ex) m [v]:=fun {z' s} he=>by
    have hgq:=hg.at_ q
    have hoq:∀ b∈(g0.at_ q).owned,I' b:=fun b hb=>ho b ((T.owned_at_sublist hg q).subset hb)
    simp only [hdrF,List.getElem?_cons_zero,Option.bind_some] at h1
    generalize g0.at_ q = g1 at *
    obtain ⟨a',s0,rfl⟩:∃ a' s0,g1 = .sl true a' z' s0:=by
     cases g1 <;> simp only [T.erase] at he <;> cases he
     exact ⟨_,_,rfl⟩
    simp only [T.erase,T.sl.injEq,true_and] at he
    simp only [hdr,Option.some.injEq,Prod.mk.injEq] at h1
    obtain ⟨rfl,rfl,rfl,rfl⟩:=h1
    obtain ⟨hs,hl⟩:=T.Holds.stretch hgq h2
    have hsub:∀ b∈(T.sl true v z' (s0.mid lo n):G).owned,b∈(T.sl true a' z' s0:G).owned:=fun b hb=>by
     have q1:=(T.owned_mid s0 lo n).count_le b
     obtain ⟨A,c,rfl,_,_,_,_,h4⟩:=h2
     rw [mem_of_count] at hb ⊢
     simp only [T.owned,List.count_append,if_true] at hb ⊢
     split at h4
     ·obtain ⟨rfl,_⟩:=h4;simp only [blk,List.count_nil] at hb ⊢;omega
     ·rename_i x n' cap;obtain ⟨y,rfl,_,h6,h7,_⟩:=h4;have:=T.blk_sub (n:=n) (n':=n') h6 (Nat.le_trans (Nat.le_add_left c lo) h7) b;omega
     ·exact h4.elim
    have hr:ImmRel h I' z' (s.mid lo n).freeze ex v:=⟨(s0.mid lo n).freeze,by rw [T.freeze_erase,T.erase_mid,he],hs.freeze hI fun b hb=>hoq b (hsub b hb),fun he A n' c hv=>by obtain ⟨A',c',q,_,_,_,q4,_⟩:=h2;rw [q] at hv;cases hv;exact q4 he⟩
    cases m <;> exact ⟨_,rfl,hr⟩
   simp only [AV.chilled]
   split
   ·rename_i he
    exact main (by rw [T.at_];exact he)
   ·exact hbad (Rl_sub_one h2)
   ·split
    ·rename_i he
     exact main (by rw [T.erase_at];exact he)
    ·exact hbad (Rl_sub_one h2)
 | mp k q =>
  intro m vs H
  have H:∃ own r z len,hdrF (g0 :: F) k q = some (own,.map (some r),z,len)∧vs = [.map (some r)]:=by cases m <;> exact H
  obtain ⟨own,r,z,len,h1,rfl⟩:=H
  cases k with
  | succ k=>cases m <;> exact ⟨own,r,z,len,by simpa [hdrF,AV.chilled] using h1,rfl⟩
  | zero=>exact hbad rfl
 | imm z s ex=>intro m vs H;exact Rl.still (av:=.imm z s ex) H hI rfl
 | iptr d=>intro m vs H;exact Rl.still (av:=.iptr d) H hI rfl
 | nil=>intro m vs H;cases m <;> exact H
 | cons a t iha iht =>
  intro m vs H
  cases m
  ·obtain ⟨v1,v2,h1,h2,h3⟩:=H
   exact ⟨v1,v2,h1,iha h2,iht h3⟩
  ·obtain ⟨v1,v2,h1,h2,h3⟩:=H
   exact ⟨v1,v2,h1,iha h2,iht h3⟩
 | agg s ih =>
  intro m vs H
  cases m
  ·exact ih (m:=false) H
  ·obtain ⟨cs,h1,h2⟩:=H
   exact ⟨cs,h1,ih h2⟩
 | tup s ih =>
  intro m vs H
  cases m
  ·exact H
  ·obtain ⟨cs,h1,h2⟩:=H
   exact ⟨cs,h1,ih h2⟩
 | fn f s ih =>
  intro m vs H
  cases m <;> (obtain ⟨cs,h1,h2⟩:=H;exact ⟨cs,h1,ih h2⟩)
theorem dead_shift (κ:List (Nat×Path)) (k:Nat) (q:Path) (s:Bool):dead (κ.map fun e=>(e.1 + 1,e.2)) (k + 1) q s = dead κ k q s:=by
 induction κ with
 | nil=>rfl
 | cons e κ ih=>simp only [dead,List.map_cons,List.any_cons] at ih ⊢;rw [ih];simp
theorem Meets.warmK {P:Program} {f:FuncId} {d0:D} {Y:List D} {t:AV} {R:AV→List D→List (Nat×Path)→Prop} (h:Meets P f Y (t.chilled d0) R)
  (hR:∀ av X κ,R av X κ→av.plain = true∧(∀ x∈X,x.allOwn = true)) :
  Meets P f (d0 :: Y) t fun av X κ=>∃ av0 X0 κ0,R av0 X0 κ0∧av = av0.emb [] 1∧X = d0 :: X0∧κ = κ0.map fun e=>(e.1 + 1,e.2):=by
 refine ⟨h.1,fun w I F0 vs hY hH hnd hap hlt hil hvs=>?_⟩
 obtain ⟨g0,FY,rfl⟩:∃ g0 FY,F0 = g0 :: FY:=by
  cases F0 with
  | nil=>simp at hY
  | cons g0 l=>exact ⟨g0,l,rfl⟩
 simp only [List.map_cons,List.cons.injEq] at hY
 obtain ⟨hY,hYs⟩:=hY
 have hg0:=hH g0 (by simp)
 have hcons:∀ F:List G,own (g0 :: F) = own [g0] ++ own F:=fun F=>by simp [own]
 have hog:own [g0] = g0.owned:=by simp [own]
 rw [hcons] at hnd hap hlt
 obtain ⟨hnd1,hnd2,hnd3⟩:=List.nodup_append.1 hnd
 have harg:=hvs.chilled (I':=fun b'=>I b'∨b'∈own [g0]) hg0 (fun _ h=>.inl h) (fun b hb=>.inr (by rw [hog];exact hb))
 rw [hY] at harg
 refine Calls.mono (h.2 w _ FY vs hYs (fun g' hg'=>(hH g' (by simp [hg'])).agree (fun _ _=>rfl) (fun _ _=>rfl) fun _ h=>.inl h) hnd2
  (fun b' hb h'=>h'.elim (hap b' (by simp [hb])) fun h'=>hnd3 b' h' b' hb rfl) (fun b' hb=>hlt b' (by simp [hb])) (fun b' hb=>hb.elim (hil b') fun h'=>hlt b' (by simp [h'])) harg) fun e w' he=>?_
 obtain ⟨v',av,X,κ,I',F',rfl,hRR,hi,hr⟩:=he
 obtain ⟨hp,hX⟩:=hR _ _ _ hRR
 have hframe:∀ b',b' < w.heap.size→b'∉own FY→w'.heap[b']? = w.heap[b']?:=fun b' hb hn=>hi.frame b' hb hn
 have hfresh:∀ b'∈own F',b' < w.heap.size→b'∈own FY:=fun b' hb h'=>hi.fresh b' hb h'
 have hg0own:∀ b'∈own [g0],w'.heap[b']? = w.heap[b']?:=fun b' hb=>hframe b' (hlt b' (by simp [hb])) fun h'=>hnd3 b' hb b' h' rfl
 refine ⟨v',av.emb [] 1,d0 :: X,κ.map fun e=>(e.1 + 1,e.2),I,g0 :: F',rfl,⟨av,X,κ,hRR,rfl,rfl,rfl⟩,⟨?_,?_,?_,?_,?_,?_,hi.os,hi.tape,hi.output,hi.size,?_,?_,fun _ hb=>hb,fun _ hb=>.inl hb,?_⟩,hr.shift (g0:=g0) hp⟩
 ·simp [hY,hi.erase]
 ·intro g' hg'
  rcases List.mem_cons.1 hg' with rfl | hg'
  ·exact hg0.agree (fun b' hb=>hg0own b' (by simpa [own] using hb)) (fun b' hb=>hframe b' (hil b' hb) fun h'=>hap b' (by simp [h']) hb) fun _ h=>h
  ·refine (hi.holds g' hg').own ?_
   rw [←T.allOwn_erase]
   exact hX _ (by rw [←hi.erase];exact List.mem_map_of_mem hg')
 ·rw [hcons]
  refine List.nodup_append.2 ⟨hnd1,hi.nodup,fun x hx y hy hxy=>?_⟩
  subst hxy
  exact hnd3 x hx x (hfresh x hy (hlt x (by simp [hx]))) rfl
 ·intro b' hb
  rw [hcons] at hb
  rcases List.mem_append.1 hb with hb | hb
  ·exact hap b' (by simp [hb])
  ·intro hI
   exact hap b' (by simp [hfresh b' hb (hil b' hI)]) hI
 ·intro b' hb
  rw [hcons] at hb
  rcases List.mem_append.1 hb with hb | hb
  ·exact Nat.lt_of_lt_of_le (hlt b' (by simp [hb])) hi.size
  ·exact hi.lt b' hb
 ·exact fun b' hb=>Nat.lt_of_lt_of_le (hil b' hb) hi.size
 ·intro b' hb hn
  rw [hcons] at hn
  exact hframe b' hb fun h'=>hn (by simp [h'])
 ·intro b' hb hlt'
  rw [hcons] at hb ⊢
  rcases List.mem_append.1 hb with hb | hb
  ·simp [hb]
  ·simp [hfresh b' hb hlt']
 ·intro k g1 hk
  cases k with
  | zero =>
   simp only [List.getElem?_cons_zero,Option.some.injEq] at hk
   subst hk
   exact ⟨_,rfl,rfl,fun _ _=>rfl,fun _ _=>rfl,fun _ _ h _=>h⟩
  | succ k =>
   simp only [List.getElem?_cons_succ] at hk
   obtain ⟨g',q1,q2,q3,q4,q5⟩:=hi.base k g1 hk
   exact ⟨g',by simpa using q1,q2,fun q hq=>q3 q (by rwa [dead_shift] at hq),fun q hq=>q4 q (by rwa [dead_shift] at hq),fun q v hv hq=>q5 q v hv (by rwa [dead_shift] at hq)⟩
theorem Meets.warm {P:Program} {f:FuncId} {d0:D} {Y:List D} {t:AV} {R:AV→List D→List (Nat×Path)→Prop} (h:Meets P f Y (t.chilled d0) R)
  (hR:∀ av X κ,R av X κ→av.plain = true∧(∀ x∈X,x.allOwn = true)∧κ = []) :
  Meets P f (d0 :: Y) t fun av X κ=>∃ av0 X0,R av0 X0 []∧av = av0.emb [] 1∧X = d0 :: X0∧κ = [] :=
 Meets.mono (Meets.warmK h fun av X κ hh=>⟨(hR _ _ _ hh).1,(hR _ _ _ hh).2.1⟩) fun av X κ ⟨av0,X0,κ0,h1,h2,h3,h4⟩=>by
  obtain rfl:=(hR _ _ _ h1).2.2
  exact ⟨av0,X0,h1,h2,h3,h4⟩
def AV.nilled:AV→AV
 | .nils z=>.imm z .nil true
 | .cons a t=>.cons a.nilled t.nilled
 | .agg s=>.agg s.nilled
 | .tup s=>.tup s.nilled
 | .fn f s=>.fn f s.nilled
 | a=>a
theorem Rl.nilled {h:Array Obj} {I:Nat→Prop} {F:List G} {av:AV}:∀ {m:Bool} {vs:List Value},Rl h I F av m vs→Rl h I F av.nilled m vs:=by
 induction av with
 | nils z =>
  intro m vs H
  have H:vs = [.slice none 0 0]:=by cases m <;> exact H
  subst H
  have hr:ImmRel h I z .nil true (.slice none 0 0):=⟨.nil,rfl,⟨trivial,trivial,fun _=>rfl,rfl,rfl,rfl⟩,fun _ A n c e=>by cases e;rfl⟩
  cases m <;> exact ⟨_,rfl,hr⟩
 | cons a t iha iht =>
  intro m vs H
  cases m
  ·obtain ⟨v1,v2,h1,h2,h3⟩:=H
   exact ⟨v1,v2,h1,iha h2,iht h3⟩
  ·obtain ⟨v1,v2,h1,h2,h3⟩:=H
   exact ⟨v1,v2,h1,iha h2,iht h3⟩
 | agg s ih =>
  intro m vs H
  cases m
  ·exact ih (m:=false) H
  ·obtain ⟨cs,h1,h2⟩:=H
   exact ⟨cs,h1,ih h2⟩
 | tup s ih =>
  intro m vs H
  cases m
  ·exact H
  ·obtain ⟨cs,h1,h2⟩:=H
   exact ⟨cs,h1,ih h2⟩
 | fn f s ih =>
  intro m vs H
  cases m <;> (obtain ⟨cs,h1,h2⟩:=H;exact ⟨cs,h1,ih h2⟩)
 | _=>intro m vs H;exact H
theorem Meets.nilled {P:Program} {f:FuncId} {Y:List D} {t:AV} {R:AV→List D→List (Nat×Path)→Prop} (h:Meets P f Y t.nilled R):Meets P f Y t R :=
 ⟨h.1,fun w I F0 vs h1 h2 h3 h4 h5 h6 h7=>h.2 w I F0 vs h1 h2 h3 h4 h5 h6 h7.nilled⟩
end Go.Vc

/- Rules that take several steps at once, so that texts are short. -/
namespace Go.Vc
set_option linter.all false
section
variable {c:Cx} {l:List Code} {K:Exit→St→Prop} {st:St}
def VSk (c:Cx) (l:List Code) (K:Exit→St→Prop) (ts:List Tmp) (st:St):Prop:=VS c l K (st.keep ts)
theorem VSk_eq (ts:List Tmp):VSk c l K ts st = VS c l K (st.keep ts):=by rw [VSk]
def r_VSk:=@VSk_eq
attribute [simp] r_VSk
attribute [irreducible] VSk
@[congr] theorem VSk_congr {ts:List Tmp} {st':St} (h:tick st = st'):VSk c l K ts st = VSk c l K ts st':=by rw [tick_eq] at h;rw [h]
@[congr] theorem VS_congr {st':St} (h:tick st = st'):VS c l K st = VS c l K st':=by rw [tick_eq] at h;rw [h]
theorem Rel.keep {a w} (hr:Rel c st a w) (ts:List Tmp):Rel c (st.keep ts) a w:=by
 obtain ⟨h1,h2,I,F,hi,he,hp⟩:=hr
 exact ⟨h1,h2,I,F,hi,fun t=>by
  rcases look_keep st.env t ts with h' | h'
  ·show Rl _ _ _ (look (ts.map _) t) true _
   rw [h'];exact rl_one
  ·show Rl _ _ _ (look (ts.map _) t) true _
   rw [h'];exact he t,hp⟩
theorem VS_cons {x:Code}:VS c (x :: l) K st = VC c x (thenK (VS c l K) K) st:=by with_unfolding_all rfl
theorem VC.then_keep {x:Code} {post:List Tmp} (h:VC c x (thenK (VSk c l K post) K) st):VC c x (thenK (VS c l K) K) st :=
 VC.mono' h fun e st a w hk hr=>by
  cases e with
  | normal =>
   have hk':VSk c l K post st:=hk
   rw [VSk_eq] at hk'
   exact ⟨_,hk',hr.keep post⟩
  | _=>exact ⟨_,hk,hr⟩
theorem VS.rg {τ:Tab} (hτ:Tab.Ok c.P τ) (id:Nat) {ops:List Oper} (pre post:List Tmp) (gs:List (Nat×Tmp)) (h:vcOps c τ gs ops 0 (st.keep pre) (VSk c l K post)) (hd:regOk c.nt ops gs = true):VS c (.region id ops.toArray false :: l) K st:=by
 refine VS.keepAt id pre ?_
 rw [VS_cons]
 exact VC.then_keep (VC.region hτ gs hd h)
theorem VS.dr {P:Program} {nt:Nat} {w0:World} {I0:Nat→Prop} {F0:List G} {τ:Tab} (hτ:Tab.Ok P τ) (hm:P.follows .mixedOrders = true) (id:Nat) {ops:List Oper} (EM:Nat) (pre post:List Tmp) (gs:List (Nat×Tmp)) (T:List Rw) (p:Plan) (o:OP)
  (h:opsVc ⟨P,nt,w0,I0,F0⟩ τ gs ops o (st.keep pre) (VSk ⟨P,nt,w0,I0,F0⟩ l K post))
  (hT:ops.map (rowOf ops.toArray) = T) (hok:drawOk EM nt ops gs T p = true) (ho:opOf EM p = o):VS ⟨P,nt,w0,I0,F0⟩ (.region id ops.toArray true :: l) K st:=by
 refine VS.keepAt id pre ?_
 rw [VS_cons]
 exact VC.then_keep (VC.drawnE hτ hm EM gs T p o hT hok ho h)
theorem n1 {a b:Code} (h:VS c (a :: b :: l) K st):VS c (.seq a b :: l) K st:=VS.seq h
theorem n2 (h:VS c l K st):VS c (.skip :: l) K st:=VS.skip h
theorem n3 {id:Nat} {x:Code} (h:VS c [x] (blockN id (VS c l K) K) st):VS c (.block id x :: l) K st:=VS.block h
theorem n4 (h:K .normal st):VS c [] K st:=VS.nil h
variable {id:Nat} {N:St→Prop} {nb n:Nat} {J:Nat→St→Prop}
theorem n5 (h:N st):blockN id N K .normal st:=h
theorem n6 (h:nextK nb J n st):loopN nb J n K .normal st:=h
theorem n7 {i:Nat} (h:K (.exit i) st):VS c (.exit i :: l) K st:=VS.exit h
theorem n8 (h:N st):blockN id N K (.exit id) st:=blockN_hit h
theorem n9 {j:Nat} (h:K (.exit j) st) (hj:j≠id:=by decide):blockN id N K (.exit j) st:=blockN_miss hj h
theorem n0 {j:Nat} (h:K (.exit j) st):loopN nb J n K (.exit j) st:=h
theorem nr (h:K .ret st):VS c (.ret :: l) K st:=VS.ret h
theorem nb_ (h:K .ret st):blockN id N K .ret st:=h
theorem nl_ (h:K .ret st):loopN nb J n K .ret st:=h
theorem nc {x:Operand} {t f:Code} (h:condVc (st.ev x) (VS c (t :: l) K st) (VS c (f :: l) K st)):VS c (.cond x t f :: l) K st:=VS.cond h
theorem ghostL {x:Code} (k:Nat) (q:Path) (h:(k < st.X.length∧(st.tree k).okp q = true∧isNode ((st.tree k).at_ q) = true∧T.noEntry true (st.tree k) q = true)∧VS c (x :: l) K (st.lift c.F0.length k q)):VS c (x :: l) K st:=VS.lift k q h.1.1 h.1.2.1 h.1.2.2.1 h.1.2.2.2 h.2
end
theorem drs:(∀ (c:Cx) (τ:Tab) (gs:List (Nat×Tmp)) (ops:List Oper) (l:List Nat) (p:OP) (st:St) (K:St→Prop),opsVc c τ gs ops (.run l p) st K = vcOrd c τ gs (pickOps ops l) st fun st=>opsVc c τ gs ops p st K) ∧
  (∀ (c:Cx) (τ:Tab) (gs:List (Nat×Tmp)) (ops:List Oper) (p q:OP) (st:St) (K:St→Prop),opsVc c τ gs ops (.both p q) st K = (opsVc c τ gs ops p st K∧opsVc c τ gs ops q st K)) ∧
  (∀ (c:Cx) (τ:Tab) (gs:List (Nat×Tmp)) (ops:List Oper) (i:Nat) (p:OP) (st:St) (K:St→Prop),opsVc c τ gs ops (.chk i p) st K = (freshVc τ st (ops[i]?)∧opsVc c τ gs ops p st K)) ∧
  (∀ (c:Cx) (τ:Tab) (gs:List (Nat×Tmp)) (ops:List Oper) (st:St) (K:St→Prop),opsVc c τ gs ops .done st K = K st) ∧
  (∀ (c:Cx) (τ:Tab) (gs:List (Nat×Tmp)) (ops:List Oper) (st:St) (K:St→Prop),opsVc c τ gs ops .yes st K = True) ∧
  (∀ ops:List Oper,pickOps ops [] = [])∧(∀ (ops:List Oper) (i:Nat) (l:List Nat),pickOps ops (i :: l) = (i,ops[i]?) :: pickOps ops l) ∧
  (∀ (a:Oper) (l:List Oper),(a :: l)[0]? = some a)∧∀ (a:Oper) (l:List Oper) (n:Nat),(a :: l)[n + 1]? = l[n]? :=
 ⟨fun _ _ _ _ _ _ _ _=>opsVc_run,fun _ _ _ _ _ _ _ _=>opsVc_both,fun _ _ _ _ _ _ _ _=>opsVc_chk,fun _ _ _ _ _ _=>opsVc_done,fun _ _ _ _ _ _=>opsVc_yes,fun _=>rfl,fun _ _ _=>rfl,fun _ _=>rfl,fun _ _ _=>rfl⟩
theorem Meets.go {c:Cx} {f:FuncId} {Y:List D} {args:AV} {R:AV→List D→List (Nat×Path)→Prop} (h:Meets c.P f Y args R) {st:St} {avs:AV} {K:AV→St→Prop} (pls:List (Nat×Path))
  (hc:(pls.map (·.1)).Nodup∧placesOk st pls Y∧args.emb pls st.X.length = avs∧args.okArg pls.length = true∧(pls = []∨avs.still = false)) (hK:∀ av X κ,R av X κ→K (av.emb pls st.X.length) (st.after c.F0.length pls X κ)):CallW c f avs st K :=
 h.call pls hc.1 hc.2.1 hc.2.2.1 hc.2.2.2.1 hc.2.2.2.2 hK
theorem endK.o {nb:Nat} {τ:Tab} {rs:List ResultVar} {R:AV→List D→List (Nat×Path)→Prop} {e:Exit} {st:St} (ts:List Tmp) (sel:List Nat) (κ':List (Nat×Path)) (h:(selOk nb st.X.length sel = true∧st.κ.all (covers κ') = true) ∧
  retK τ rs R e { st.pick ts sel with κ:=κ' }):endK nb τ rs R e st:=⟨ts,sel,κ',h.1.1,h.1.2,h.2⟩
theorem nextK.o {nb:Nat} {J:Nat→St→Prop} {n:Nat} {st:St} (ts:List Tmp) (sel:List Nat) (m:Nat) (h:(m < n∧selOk nb st.X.length sel = true)∧J m (st.pick ts sel)):nextK nb J n st:=nextK.of ts sel m h.1.1 h.1.2 h.2
theorem Ty.Ok.okI {P:Program} {t:TypeId} {y:Ty} (i:TypeInfo) (z:Value) {b:Bool} {n:Nat} {g:G} (hl:y.ld = some (b,n)) (hz:y.zero = some g)
  (h1:P.info? t = some i:=by kernel_rfl) (h2:i.zero = some z:=by kernel_rfl) (h3:zeroish g = true:=by kernel_rfl) (h4:z.cells.toList = g.cells:=by kernel_rfl)
  (h5:T.vAgg z = T.aggy g:=by kernel_rfl) (h6:aggTy P t = b:=by kernel_rfl) (h7:(P.underlying t).isSome = true:=by kernel_rfl) (h8:i.size = n:=by kernel_rfl)
  (sl:∀ e z by_ zv,y.sl = some (e,z,by_,zv)→P.underlying t = some (.slice e)∧∃ i,P.info? e = some i∧i.zero = some zv∧i.size = z∧i.bytes = by_∧zv.cells.size = z:=by intro e z b v h;cases h)
  (st:∀ l,y.st = some l→∃ fs,P.underlying t = some (.struct fs)∧fs.toList.map (fun f=>(f.offset,P.cellsOf f.type)) = l∧(∀ f∈fs.toList,(P.info? f.type).isSome = true)∧l.all (fun x=>x.2 != 0) = true:=by intro l h;cases h)
  (ar:∀ n z,y.ar = some (n,z)→∃ e,P.underlying t = some (.array n e)∧∃ i,P.info? e = some i∧i.size = z:=by intro n z h;cases h)
  (int:∀ k,y.int = some k→P.underlying t = some (.int k):=by intro k h;cases h)
  (ptr:y.ptr = true→∃ e,P.underlying t = some (.pointer e):=by intro h;cases h)
  (str:y.str = true→P.underlying t = some .string:=by intro h;cases h)
  (bool:y.bool = true→P.underlying t = some .bool:=by intro h;cases h)
  (mp:∀ e kd,y.mp = some (e,kd)→∃ k,P.underlying t = some (.map k e)∧KOps P k kd.is:=by intro e k h;cases h)
  (ae:y.ae = true→∃ n e,P.underlying t = some (.array n e)∧aggTy P e = false∧(P.underlying e).isSome = true:=by intro h;cases h):y.Ok P t where
 sl:=sl
 ld:=by intro b' n' h;rw [hl] at h;cases h;exact ⟨h6,h7,i,h1,h8⟩
 zero:=by intro g' h;rw [hz] at h;cases h;exact ⟨h3,i,z,h1,h2,h4⟩
 zone:=by intro g' h;rw [hz] at h;cases h;exact ⟨i,z,h1,h2,h5⟩
 st:=st
 ar:=ar
 int:=int
 ptr:=ptr
 str:=str
 bool:=bool
 mp:=mp
 ae:=ae
theorem Ty.Ok.okN {P:Program} {t:TypeId}:({}:Ty).Ok P t :=
 ⟨(by intro e z b v h;cases h),(by intro b n h;cases h),(by intro g h;cases h),(by intro g h;cases h),(by intro l h;cases h),(by intro n z h;cases h),(by intro k h;cases h),(by intro h;cases h),(by intro h;cases h),(by intro h;cases h),(by intro e k h;cases h),(by intro h;cases h)⟩
end Go.Vc
