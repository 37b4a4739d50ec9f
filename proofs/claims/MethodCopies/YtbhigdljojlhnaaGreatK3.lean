import Derived.Test.YtbhigdljojlhnaaGreatK2
import Derived.RangeFuncLeaves
import Derived.RangeFuncRecord
import Derived.Orders
import Derived.IntWalk
import Derived.Below
import Derived.RangeFuncCalls
import Derived.TacticsIn
import Derived.RangeFuncSeq
import Derived.RangeFuncOwn
import Derived.KernelRfl
namespace Go.Vc
set_option linter.all false
open T (cM blk)
def VC (c:Cx) (code:Code) (K:Exit→St→Prop) (st:St):Prop :=
 ∀a w,Rel c st a w→code.wp c.P (fun e a w=>∃st',K e st'∧Rel c st' a w) a w
theorem VC.mono{c:Cx}{code:Code}{K K':Exit→St→Prop}{st:St}(h:VC c code K st)(hk:∀e st,K e st→K' e st):VC c code K' st :=
 fun a w hr=>wp_mono (h a w hr) fun _ _ _ ⟨st',h1,h2⟩=>⟨st',hk _ _ h1,h2⟩
def eN (next:St→Prop) (K:Exit→St→Prop):Exit→St→Prop
 | .normal,st=>next st
 | e,st=>K e st
theorem VC.seq{c:Cx}{x y:Code}{K:Exit→St→Prop}{st:St}(h:VC c x (eN (VC c y K) K) st):VC c (.seq x y) K st :=
 fun a w hr=>wp_seq (wp_mono (h a w hr) fun e a w ⟨st',h1,h2⟩=>by
  cases e with
  | normal=>exact h1 a w h2
  | _=>exact⟨st',h1,h2⟩)
theorem VC.mid{c:Cx}{x y:Code}{K:Exit→St→Prop}{st:St}(M:St→Prop)(h:VC c x (eN M K) st)(h2:∀st,M st→VC c y K st):VC c (.seq x y) K st :=
 VC.seq (h.mono fun e st hk=>by cases e<;>first|exact h2 st hk|exact hk)
theorem VC.skip{c:Cx}{K:Exit→St→Prop}{st:St}(h:K .normal st):VC c .skip K st:=fun _ _ hr=>wp_skip ⟨st,h,hr⟩
theorem VC.ret{c:Cx}{K:Exit→St→Prop}{st:St}(h:K .ret st):VC c .ret K st:=fun _ _ hr=>wp_ret ⟨st,h,hr⟩
theorem VC.exit{c:Cx}{K:Exit→St→Prop}{st:St}{id:Nat}(h:K (.exit id) st):VC c (.exit id) K st:=fun _ _ hr=>wp_exit ⟨st,h,hr⟩
def kE (nt:Nat) (ops:List Oper) (gs:List (Nat×Tmp)):Bool:=dY nt ops&&oJ ops gs
theorem VC.region{c:Cx}{τ:bg}(hτ:bg.Ok c.P τ){id:Nat}{ops:List Oper}{K:Exit→St→Prop}{st:St}(gs:List (Nat×Tmp))(hd:kE c.nt ops gs=true)
  (h:eL c τ gs ops 0 st (K .normal)):VC c (.region id ops.toArray false) K st:=fun a w hr=>by
 simp only[kE,Bool.and_eq_true] at hd
 refine wp_region_list ?_
 have:=Ht (Q:=fun e a w=>∃st',K e st'∧Rel c st' a w) hτ hd.2 (fun st a w h1 h2=>⟨st,h1,h2⟩) ops 0 st a w hd.1 hr h
 simpa using this
def lT (av:AV) (t f:Prop):Prop :=
 match av with
 | .val (.bool b)=>(b=true→t)∧(b=false→f)
 | _=>False
theorem VC.cond{c:Cx}{x:Operand}{t f:Code}{K:Exit→St→Prop}{st:St}(h:lT (st.ev x) (VC c t K st) (VC c f K st)):VC c (.cond x t f) K st:=fun a w hr=>by
 obtain⟨hd,hs,I,F,hi,he,hp⟩:=id hr
 unfold lT at h
 split at h
 ·rename_i b hx
  have hv:=he.ev x
  rw[hx] at hv
  obtain⟨hv,_⟩:=hv
  injection hv with hv _
  exact wp_cond_split hv (fun hb=>h.1 hb a w hr) (fun hb=>h.2 hb a w hr)
 ·exact h.elim
def mJ (id:Nat) (K:Exit→St→Prop):Exit→St→Prop
 | .exit j,st=>if j=id then K .normal st else K (.exit j) st
 | e,st=>K e st
theorem VC.block{c:Cx}{id:Nat}{x:Code}{K:Exit→St→Prop}{st:St}(h:VC c x (mJ id K) st):VC c (.block id x) K st:=fun a w hr=>by
 refine wp_block (wp_mono (h a w hr) fun e a w ⟨st',h1,h2⟩=>?_)
 cases e<;>simp only[Exit.inBlock,mJ] at *
 case exit j =>
  split at h1
  ·rename_i hj;rw[if_pos hj];exact⟨st',h1,h2⟩
  ·rename_i hj;rw[if_neg hj];exact⟨st',h1,h2⟩
 all_goals exact⟨st',h1,h2⟩
theorem exists_least{p:Nat→Prop}(h:∃n,p n):∃n,p n∧∀m,p m→n≤m:=by
 obtain⟨n,hn⟩:=h
 induction n using Nat.strongRecOn with
 | _ n ih =>
  by_cases hm:∃m,m<n∧p m
  ·obtain⟨m,h1,h2⟩:=hm;exact ih m h1 h2
  ·exact⟨n,hn,fun m hp=>by
    rcases Nat.lt_or_ge m n with h|h
    ·exact absurd ⟨m,h,hp⟩ hm
    ·exact h⟩
theorem VC.loop{c:Cx}{x:Code}{K:Exit→St→Prop}{st:St}(J:Nat→St→Prop)(h0:∃n,J n st)(hr:∀n st,J n st→VC c x (eN (fun st'=>∃m,m<n∧J m st') K) st) :
  VC c (.loop x) K st:=fun a w tX=>by
 let p:Act→World→Nat→Prop:=fun a w n=>∃st,J n st∧Rel c st a w
 have hex:∀a w,(∃n,p a w n)→∃n,p a w n∧∀m,p a w m→n≤m:=fun a w h=>exists_least h
 let μ:Act→World→Nat:=fun a w=>@dite _ (∃n,p a w n) (Classical.propDecidable _) (fun h=>Classical.choose (hex a w h)) (fun _=>0)
 have hμ:∀a w (h:∃n,p a w n),p a w (μ a w)∧∀m,p a w m→μ a w≤m:=fun a w h=>by
  have:=Classical.choose_spec (hex a w h)
  simp only[μ,dif_pos h]
  exact this
 obtain⟨n,hn⟩:=h0
 refine wp_loop (fun a w=>∃n,p a w n) μ ⟨n,st,hn,tX⟩ fun a w hI=>?_
 obtain⟨⟨st,hJ,tX⟩,_⟩:=hμ a w hI
 refine wp_mono (hr _ st hJ a w tX) fun e a' w' ⟨st',h1,h2⟩=>?_
 cases e with
 | normal =>
  obtain⟨m,hm,hJ'⟩:=h1
  have hI':∃n,p a' w' n:=⟨m,st',hJ',h2⟩
  exact⟨hI',Nat.lt_of_le_of_lt ((hμ a' w' hI').2 m ⟨st',hJ',h2⟩) hm⟩
 | _=>exact⟨st',h1,h2⟩
theorem VC.ghost{c:Cx}{code:Code}{K:Exit→St→Prop}{st st':St}(hg:∀a w,Rel c st a w→Rel c st' a w)(h:VC c code K st'):VC c code K st :=
 fun a w hr=>h a w (hg a w hr)
end Go.Vc

namespace Go.Vc
set_option linter.all false
open T (cM blk)
def ai (P:Program) (f:FuncId) (Y:List D) (args:AV) (R:AV→List D→List (Nat×Path)→Prop):Prop :=
 iX P f∧∀(w:World) (I:Nat→Prop) (F0:List G) (vs:List Value),F0.map T.erase=Y→(∀g∈F0,T.Holds w.heap I g)→(own F0).Nodup→(∀b∈own F0,¬I b)→(∀b∈own F0,b<w.heap.size) →
  (∀b,I b→b<w.heap.size)→Rl w.heap I F0 args true vs →
  Calls P f vs.toArray w fun e w'=>∃v av X κ I' F',e=.returned v∧R av X κ∧Inv ⟨P,0,w,I,F0⟩ X κ w' I' F'∧Rl w'.heap I' F' av true [v]
def back {α:Type}:List (Nat×Path)→List (T α)→List (T α)→List (T α)
 | (k,p)::aC,x::xs,F=>back aC xs (F.set k ((F.getD k .nil).set p x))
 | _,_,F=>F
def og (aC:List (Nat×Path)) (n0 i:Nat):Nat×Path :=
 match aC[i]? with
 | some e=>e
 | none=>(n0+(i-aC.length),[])
def AV.kO (aC:List (Nat×Path)) (n0:Nat):AV→AV
 | .ptr i q=>.ptr (og aC n0 i).1 ((og aC n0 i).2++q)
 | .sub i q lo n ex=>.sub (og aC n0 i).1 ((og aC n0 i).2++q) lo n ex
 | .mp i q=>.mp (og aC n0 i).1 ((og aC n0 i).2++q)
 | .cons a t=>.cons (a.kO aC n0) (t.kO aC n0)
 | .agg s=>.agg (s.kO aC n0)
 | .cT s=>.cT (s.kO aC n0)
 | .fn f s=>.fn f (s.kO aC n0)
 | a=>a
def AV.fH (nb:Nat):AV→Bool
 | .ptr i q=>Nat.blt i nb && !q.isEmpty
 | .sub i _ _ _ _=>Nat.blt i nb
 | .mp i _=>Nat.blt i nb
 | .cons a t=>a.fH nb&&t.fH nb
 | .agg s=>s.fH nb
 | .cT s=>s.fH nb
 | .fn _ s=>s.fH nb
 | _=>true
def aW {α:Type}:T α→Bool
 | .sl _ _ _ _=>true
 | .box _ _ _=>true
 | .map _ _ _=>true
 | _=>false
def eU (st:St):List (Nat×Path)→List D→Prop
 | [],[]=>True
 | (k,p)::aC,y::Y=>k<st.X.length∧(st.tree k).dU p=true∧T.noEntry false (st.tree k) p=true∧aW y=true∧(st.tree k).at_ p=y∧eU st aC Y
 | _,_=>False
def Hu (aC:List (Nat×Path)) (κ:List (Nat×Path)):List (Nat×Path) :=
 κ.filterMap fun (i,q)=>(aC[i]?).map fun (k,p)=>(k,p++q)
def St.after (nb:Nat) (st:St) (aC:List (Nat×Path)) (X:List D) (κ:List (Nat×Path)):St where
 env:=st.env.kill (Hu aC κ)
 X:=back aC (X.take aC.length) st.X++X.drop aC.length
 κ:=(Hu aC κ).filter (fun e=>Nat.blt e.1 nb)++st.κ
 pl:=dK (Hu aC κ) st.pl
namespace T
theorem qL{g:G}{p r:Path}(hk:g.dU p=true){b o:Nat}(h:(g.at_ p).loc r=some (.abs b o)):g.loc (p++r)=some (.abs b o):=by
 induction p generalizing g with
 | nil=>exact h
 | cons st p ih =>
  cases g<;>cases st<;>simp only[dU,Bool.and_eq_true,decide_eq_true_eq] at hk<;>try cases hk
  case agg.f.intro s i hi hk=>simp only[List.cons_append,loc,if_pos hi,ih hk h]
  case sl.i.intro own a z s k hi hk=>simp only[List.cons_append,loc,if_pos hi.2,ih hk h]
  case box.d.intro own a g ho hk=>simp only[List.cons_append,loc,ih hk h]
  case map.i.intro own a s k hi hk=>simp only[List.cons_append,loc,if_pos hi.2,ih hk h]
theorem xB{g:G}{p r:Path}(hk:g.dU p=true)(h:(g.at_ p).loc r=none):g.loc (p++r)=none:=by
 induction p generalizing g with
 | nil=>exact h
 | cons st p ih =>
  cases g<;>cases st<;>simp only[dU,Bool.and_eq_true,decide_eq_true_eq] at hk<;>try cases hk
  case agg.f.intro s i hi hk=>simp only[List.cons_append,loc,if_pos hi,ih hk h]
  case sl.i.intro own a z s k hi hk=>simp only[List.cons_append,loc,if_pos hi.2,ih hk h]
  case box.d.intro own a g ho hk=>simp only[List.cons_append,loc,ih hk h]
  case map.i.intro own a s k hi hk=>simp only[List.cons_append,loc,if_pos hi.2,ih hk h]
theorem TG{g:G}(hh:aW g=true){r:Path}(hr:r≠[]):g.loc r=none∨∃b o,g.loc r=some (.abs b o):=by
 cases r with
 | nil=>exact absurd rfl hr
 | cons st r =>
  cases g<;>cases st<;>simp only[aW] at hh<;>try cases hh
  all_goals
   simp only[loc]
   first
   | exact .inl rfl
   | (repeat' split)<;>simp
theorem zM{g:G}{p r:Path}(hk:g.dU p=true)(hh:aW (g.at_ p)=true)(hr:r≠[]):g.loc (p++r)=(g.at_ p).loc r:=by
 rcases TG hh hr with h|⟨b,o,h⟩
 ·rw[h,xB hk h]
 ·rw[h,qL hk h]
theorem XG{g x:G}{p:Path}(hk:g.dU p=true):(g.set p x).dU p=true:=by
 induction p generalizing g with
 | nil=>rfl
 | cons st p ih =>
  cases g<;>cases st<;>simp only[dU,Bool.and_eq_true,decide_eq_true_eq] at hk<;>try cases hk
  case agg.f.intro s i hi hk=>simp only[T.set,dU,bS,aZ _ hi,ih hk,hi];rfl
  case sl.i.intro own a z s k hi hk=>simp only[T.set,dU,bS,aZ _ hi.2,ih hk,hi.1,hi.2];rfl
  case box.d.intro own a g ho hk=>simp only[T.set,dU,ih hk,ho];rfl
  case map.i.intro own a s k hi hk=>simp only[T.set,dU,bS,aZ _ hi.2,ih hk,hi.1,hi.2];rfl
end T
theorem Ek(p q r:Path):ah (p++q) (p++r)=ah q r:=by
 induction p with
 | nil=>rfl
 | cons st p ih=>cases st<;>simp[ah,ih]
section
variable {α:Type}
theorem iH:∀(aC:List (Nat×Path)) (xs F:List (T α)),(back aC xs F).length=F.length
 | [],_,_=>rfl
 | _::_,[],_=>rfl
 | (k,p)::aC,x::xs,F=>by rw[back,iH];simp
theorem oh{k:Nat}:∀(aC:List (Nat×Path)) (xs F:List (T α)),k∉aC.map (·.1)→(back aC xs F)[k]? = F[k]?
 | [],_,_,_=>rfl
 | _::_,[],_,_=>rfl
 | (j,p)::aC,x::xs,F,h=>by
  simp only[List.map_cons,List.mem_cons,not_or] at h
  rw[back,oh aC xs _ h.2,List.getElem?_set_ne (Ne.symm h.1)]
theorem A5{i k:Nat}{p:Path}{x g:T α}:∀(aC:List (Nat×Path)) (xs F:List (T α)),(aC.map (·.1)).Nodup→aC[i]? = some (k,p)→xs[i]? = some x→F[k]? = some g →
  (back aC xs F)[k]? = some (g.set p x):=by
 induction i with
 | zero =>
  intro aC xs F hn hp hx hg
  cases aC with
  | nil=>simp at hp
  | cons e aC =>
   cases xs with
   | nil=>simp at hx
   | cons y xs =>
    obtain rfl:e=(k,p):=by simpa using hp
    obtain rfl:y=x:=by simpa using hx
    simp only[List.map_cons,List.nodup_cons] at hn
    rw[back,oh _ _ _ hn.1]
    have hk:=(List.getElem?_eq_some_iff.1 hg).1
    simp[List.getElem?_set_self hk,hg]
 | succ i ih =>
  intro aC xs F hn hp hx hg
  cases aC with
  | nil=>simp at hp
  | cons e aC =>
   cases xs with
   | nil=>simp at hx
   | cons y xs =>
    obtain⟨j,q⟩:=e
    simp only[List.map_cons,List.nodup_cons] at hn
    have hp':aC[i]? = some (k,p):=by simpa using hp
    have hne:j≠k:=fun e=>hn.1 (by subst e;exact List.mem_map.2 ⟨(j,p),List.mem_of_getElem? hp',rfl⟩)
    rw[back]
    exact ih aC xs _ hn.2 hp' (by simpa using hx) (by rw[List.getElem?_set_ne hne];exact hg)
theorem xC{k:Nat}{aC:List (Nat×Path)}{xs F:List (T α)}(hn:(aC.map (·.1)).Nodup)(hl:xs.length=aC.length)(hk:k<F.length) :
  (∃(i:Nat) (p:Path) (x g:T α),aC[i]? = some (k,p)∧xs[i]? = some x∧F[k]? = some g∧(back aC xs F)[k]? = some (g.set p x))∨(k∉aC.map (·.1)∧(back aC xs F)[k]? = F[k]?):=by
 by_cases h:k∈aC.map (·.1)
 ·obtain⟨⟨k',p⟩,h1,h2⟩:=List.mem_map.1 h
  simp only at h2
  subst h2
  obtain⟨i,hi⟩:=List.getElem?_of_mem h1
  have hil:=(List.getElem?_eq_some_iff.1 hi).1
  have hx:xs[i]? = some (xs[i]'(by omega)):=List.getElem?_eq_getElem (by omega)
  have hg:=List.getElem?_eq_getElem hk
  exact .inl ⟨i,p,_,_,hi,hx,hg,A5 aC xs F hn hi hx hg⟩
 ·exact .inr ⟨h,oh _ _ _ h⟩
end
theorem lJ:∀(aC:List (Nat×Path)) (xs F:List G),(back aC xs F).map T.erase=back aC (xs.map T.erase) (F.map T.erase)
 | [],_,_=>rfl
 | _::_,[],_=>rfl
 | (k,p)::aC,x::xs,F=>by
  rw[back,lJ,List.map_cons,back,List.map_set,T.mZ]
  congr 3
  simp only[List.getD_eq_getElem?_getD,List.getElem?_map]
  cases F[k]? <;> rfl
def nodes (F:List G) (aC:List (Nat×Path)):List G:=aC.map fun e=>(F.getD e.1 .nil).at_ e.2
theorem fN(b:Nat):∀(aC:List (Nat×Path)) (xs F:List G),(aC.map (·.1)).Nodup→xs.length=aC.length→(∀e∈aC,e.1<F.length∧(F.getD e.1 .nil).dU e.2=true) →
  (own (back aC xs F)).count b+(own (nodes F aC)).count b=(own F).count b+(own xs).count b
 | [],[],F,_,_,_=>by simp[back,nodes,own]
 | [],_::_,_,_,hl,_=>by simp at hl
 | _::_,[],_,_,hl,_=>by simp at hl
 | (k,p)::aC,x::xs,F,hn,hl,hok=>by
  simp only[List.map_cons,List.nodup_cons] at hn
  obtain⟨hk,hp⟩:=hok (k,p) List.mem_cons_self
  simp only at hk hp
  have hg:F[k]? = some (F[k]'hk):=List.getElem?_eq_getElem hk
  have hgd:F.getD k .nil=F[k]'hk:=by simp[hk]
  rw[hgd] at hp
  have jg:∀e∈aC,(F.set k ((F.getD k .nil).set p x)).getD e.1 .nil=F.getD e.1 .nil:=fun e he=>by
   have hne:k≠e.1:=fun h=>hn.1 (h▸List.mem_map.2 ⟨e,he,rfl⟩)
   simp only[List.getD_eq_getElem?_getD]
   rw[List.getElem?_set_ne hne]
  have ih:=fN b aC xs (F.set k ((F.getD k .nil).set p x)) hn.2 (by simpa using hl) fun e he=>by
   obtain⟨h1,h2⟩:=hok e (List.mem_cons_of_mem _ he)
   exact⟨by simpa using h1,by rw[jg e he];exact h2⟩
  have A6:nodes (F.set k ((F.getD k .nil).set p x)) aC=nodes F aC:=List.map_congr_left fun e he=>by rw[jg e he]
  rw[A6] at ih
  have h1:=cQ hg ((F.getD k .nil).set p x) b
  obtain⟨h2,h3⟩:=T.eF hp b
  have h3:=h3 x
  rw[hgd] at h1 ih
  have h4:(own (nodes F ((k,p)::aC))).count b=((F[k]'hk).at_ p).owned.count b+(own (nodes F aC)).count b:=by
   simp only[nodes,List.map_cons,own,List.flatMap_cons,List.count_append,hgd]
  have h5:(own (x::xs)).count b=x.owned.count b+(own xs).count b:=by simp[own]
  rw[back,h4,h5,hgd]
  omega
end Go.Vc

namespace Go.Vc
set_option linter.all false
open T (cM blk)
theorem T.yl{g x:G}{p r:Path}(hk:g.dU p=true)(hw:x.width=(g.at_ p).width)(h:x.loc r=(g.at_ p).loc r):(g.set p x).loc (p++r)=g.loc (p++r):=by
 induction p generalizing g with
 | nil=>exact h
 | cons st p ih =>
  cases g<;>cases st<;>simp only[dU,Bool.and_eq_true,decide_eq_true_eq] at hk<;>try cases hk
  case agg.f.intro s i hi hk =>
   have Va:((s.nth i).set p x).width=(s.nth i).width:=qj hw
   simp only[List.cons_append,T.set,loc,bS,if_pos hi,aZ _ hi,zw Va,ih hk hw h]
  case sl.i.intro own a z s k hi hk=>simp only[List.cons_append,T.set,loc,bS,if_pos hi.2,aZ _ hi.2,ih hk hw h]
  case box.d.intro own a g ho hk=>simp only[List.cons_append,T.set,loc,ih hk hw h]
  case map.i.intro own a s k hi hk=>simp only[List.cons_append,T.set,loc,bS,if_pos hi.2,aZ _ hi.2,ih hk hw h]
theorem uf{aC:List (Nat×Path)}{κ:List (Nat×Path)}{i k:Nat}{p r:Path}{s:Bool}(hi:aC[i]? = some (k,p))(hd:dead (Hu aC κ) k (p++r) s=false):dead κ i r s=false:=by
 unfold dead at *
 rw[List.any_eq_false] at *
 rintro⟨j,q0⟩ hm h2
 simp only[Bool.and_eq_true,beq_iff_eq] at h2
 obtain⟨rfl,h3,h4⟩:=h2
 refine hd (k,p++q0) (List.mem_filterMap.2 ⟨(i,q0),hm,by simp[hi]⟩) ?_
 simp only[Bool.and_eq_true,beq_self_eq_true,Ek,h3,true_and,List.length_append]
 simp only[Bool.or_eq_true,decide_eq_true_eq] at h4 ⊢
 rcases h4 with h4|h4
 ·exact .inl h4
 ·exact .inr (by omega)
theorem gW{st:St}:∀{aC:List (Nat×Path)} {Y:List D},eU st aC Y →
  aC.length=Y.length∧(∀e∈aC,e.1<st.X.length∧(st.tree e.1).dU e.2=true∧T.noEntry false (st.tree e.1) e.2=true∧aW ((st.tree e.1).at_ e.2)=true) ∧
   aC.map (fun e=>(st.tree e.1).at_ e.2)=Y
 | [],[],_=>⟨rfl,by simp,rfl⟩
 | [],_::_,h=>h.elim
 | _::_,[],h=>h.elim
 | (k,p)::aC,y::Y,⟨h1,h2,h3,h4,h5,h6⟩=>by
  obtain⟨g1,g2,g3⟩:=gW h6
  refine⟨by simp[g1],fun e he=>?_,by simp[g3,h5]⟩
  rcases List.mem_cons.1 he with rfl|he
  ·exact⟨h1,h2,h3,by rw[h5];exact h4⟩
  ·exact g2 e he
theorem kP{α:Type}(g:T α):aW g.erase=aW g:=by cases g<;>rfl
theorem pz{h:Array Obj}{I:Nat→Prop}{F:List G}{aC:List (Nat×Path)}{n0:Nat}(hok:∀e∈aC,(F.getD e.1 .nil).dU e.2=true∧aW ((F.getD e.1 .nil).at_ e.2)=true)(av:AV) :
  ∀{m:Bool} {vs:List Value},av.fH aC.length=true→Rl h I F (av.kO aC n0) m vs→Rl h I (nodes F aC) av m vs:=by
 have node:∀(i k:Nat) (p:Path),aC[i]? = some (k,p)→(nodes F aC)[i]? = some ((F.getD k .nil).at_ p):=fun i k p hi=>by rw[nodes,List.getElem?_map,hi];rfl
 have TH:∀(i k:Nat) (p q:Path) (x:Bool×Value×Nat×Nat),aC[i]? = some (k,p)→bM F k (p++q)=some x→bM (nodes F aC) i q=some x:=fun i k p q x hi hx=>by
  unfold bM at *
  rw[node i k p hi]
  cases hg:F[k]? with
  | none=>rw[hg] at hx;simp at hx
  | some g =>
   rw[hg] at hx
   simp only[Option.bind_some,T.cY] at hx ⊢
   simpa[List.getD_eq_getElem?_getD,hg] using hx
 induction av with
 | ptr i q =>
  intro m vs ha H
  simp only[AV.fH,Bool.and_eq_true,Bool.not_eq_true',List.isEmpty_eq_false_iff] at ha
  have hi:i<aC.length:=Nat.le_of_ble_eq_true ha.1
  obtain⟨k,p,hp⟩:∃k p,aC[i]? = some (k,p):=⟨_,_,List.getElem?_eq_getElem hi⟩
  simp only[AV.kO,og,hp] at H
  obtain⟨h1,h2⟩:=hok _ (List.mem_of_getElem? hp)
  cases m <;>
  ·obtain⟨b,o,h3,h4⟩:=H
   refine⟨b,o,?_,h4⟩
   unfold dF at *
   rw[node i k p hp]
   cases hg:F[k]? with
   | none=>rw[hg] at h3;simp at h3
   | some g =>
    rw[hg] at h3
    have hgd:F.getD k .nil=g:=by simp[List.getD_eq_getElem?_getD,hg]
    simp only[hgd] at h1 h2 ⊢
    simp only[Option.bind_some] at h3 ⊢
    rw[←T.zM h1 h2 ha.2];exact h3
 | sub i q lo n ex =>
  intro m vs ha H
  have hi:i<aC.length:=Nat.le_of_ble_eq_true ha
  obtain⟨k,p,hp⟩:∃k p,aC[i]? = some (k,p):=⟨_,_,List.getElem?_eq_getElem hi⟩
  simp only[AV.kO,og,hp] at H
  cases m<;>(obtain⟨own,a,z,len,v,h1,h2⟩:=H;exact⟨own,a,z,len,v,TH i k p q _ hp h1,h2⟩)
 | mp i q =>
  intro m vs ha H
  have hi:i<aC.length:=Nat.le_of_ble_eq_true ha
  obtain⟨k,p,hp⟩:∃k p,aC[i]? = some (k,p):=⟨_,_,List.getElem?_eq_getElem hi⟩
  simp only[AV.kO,og,hp] at H
  cases m<;>(obtain⟨own,a,z,len,h1,h2⟩:=H;exact⟨own,a,z,len,TH i k p q _ hp h1,h2⟩)
 | cons a t kz bO =>
  intro m vs ha H
  simp only[AV.fH,Bool.and_eq_true] at ha
  cases m<;>(obtain⟨v1,v2,h1,h2,h3⟩:=H;exact⟨v1,v2,h1,kz ha.1 h2,bO ha.2 h3⟩)
 | agg s ih =>
  intro m vs ha H
  cases m
  ·exact ih (m:=false) ha H
  ·obtain⟨cs,h1,h2⟩:=H;exact⟨cs,h1,ih ha h2⟩
 | cT s ih =>
  intro m vs ha H
  cases m
  ·exact H.elim
  ·obtain⟨cs,h1,h2⟩:=H;exact⟨cs,h1,ih ha h2⟩
 | fn f s ih=>intro m vs ha H;cases m<;>(obtain⟨cs,h1,h2⟩:=H;exact⟨cs,h1,ih ha h2⟩)
 | _=>intro m vs _ H;cases m<;>exact H
def joined {α:Type} (aC:List (Nat×Path)) (F' F:List (T α)):List (T α):=back aC (F'.take aC.length) F++F'.drop aC.length
theorem zN{F F':List G}{aC:List (Nat×Path)}(hn:(aC.map (·.1)).Nodup)(hok:∀e∈aC,e.1<F.length∧(F.getD e.1 .nil).dU e.2=true){i k:Nat}{p:Path}{x:G}
  (hi:aC[i]? = some (k,p)) (hx:F'[i]? = some x):∃g,F[k]? = some g∧g.dU p=true∧(joined aC F' F)[k]? = some (g.set p x):=by
 obtain⟨h1,h2⟩:=hok _ (List.mem_of_getElem? hi)
 have hg:F[k]? = some (F[k]'h1):=List.getElem?_eq_getElem h1
 refine⟨_,hg,by simpa[List.getD_eq_getElem?_getD,hg] using h2,?_⟩
 unfold joined
 rw[List.getElem?_append_left (by rw[iH];exact h1)]
 exact A5 aC _ F hn hi (by rw[List.getElem?_take_of_lt (List.getElem?_eq_some_iff.1 hi).1];exact hx) hg
theorem q8{F F':List G}{aC:List (Nat×Path)}{i:Nat}(hi:aC[i]? = none):(joined aC F' F)[F.length+(i-aC.length)]? = F'[i]?:=by
 have:=List.getElem?_eq_none_iff.1 hi
 unfold joined
 rw[List.getElem?_append_right (by rw[iH];omega),iH,List.getElem?_drop]
 congr 1;omega
theorem sF{h:Array Obj}{I:Nat→Prop}{F F':List G}{aC:List (Nat×Path)}(hn:(aC.map (·.1)).Nodup)
  (hok:∀e∈aC,e.1<F.length∧(F.getD e.1 .nil).dU e.2=true) (av:AV) :
  ∀{m:Bool} {vs:List Value},Rl h I F' av m vs→Rl h I (joined aC F' F) (av.kO aC F.length) m vs:=by
 have agH:∀(i:Nat) (q:Path) (b o:Nat),dF F' i q=some (.abs b o)→dF (joined aC F' F) (og aC F.length i).1 ((og aC F.length i).2++q)=some (.abs b o):=fun i q b o hl=>by
  unfold og
  cases hi:aC[i]? with
  | none=>simp only[dF,q8 hi,List.nil_append] at hl ⊢;exact hl
  | some e =>
   obtain⟨k,p⟩:=e
   simp only
   unfold dF at *
   cases hx:F'[i]? with
   | none=>rw[hx] at hl;simp at hl
   | some x =>
    rw[hx] at hl
    obtain⟨g,h1,h2,h3⟩:=zN hn hok hi hx
    simp only[h3,Option.bind_some] at hl ⊢
    exact T.qL (T.XG h2) (by rw[T.gF h2];exact hl)
 have TH:∀(i:Nat) (q:Path) (y:Bool×Value×Nat×Nat),bM F' i q=some y→bM (joined aC F' F) (og aC F.length i).1 ((og aC F.length i).2++q)=some y:=fun i q y hl=>by
  unfold og
  cases hi:aC[i]? with
  | none=>simp only[bM,q8 hi,List.nil_append] at hl ⊢;exact hl
  | some e =>
   obtain⟨k,p⟩:=e
   simp only
   unfold bM at *
   cases hx:F'[i]? with
   | none=>rw[hx] at hl;simp at hl
   | some x =>
    rw[hx] at hl
    obtain⟨g,h1,h2,h3⟩:=zN hn hok hi hx
    simp only[h3,Option.bind_some,T.cY,T.gF h2] at hl ⊢
    exact hl
 induction av with
 | ptr i q=>intro m vs H;cases m<;>(obtain⟨b,o,h3,h4⟩:=H;exact⟨b,o,agH i q b o h3,h4⟩)
 | sub i q lo n ex=>intro m vs H;cases m<;>(obtain⟨own,a,z,len,v,h1,h2⟩:=H;exact⟨own,a,z,len,v,TH i q _ h1,h2⟩)
 | mp i q=>intro m vs H;cases m<;>(obtain⟨own,a,z,len,h1,h2⟩:=H;exact⟨own,a,z,len,TH i q _ h1,h2⟩)
 | cons a t kz bO=>intro m vs H;cases m<;>(obtain⟨v1,v2,h1,h2,h3⟩:=H;exact⟨v1,v2,h1,kz h2,bO h3⟩)
 | agg s ih =>
  intro m vs H
  cases m
  ·exact ih (m:=false) H
  ·obtain⟨cs,h1,h2⟩:=H;exact⟨cs,h1,ih h2⟩
 | cT s ih =>
  intro m vs H
  cases m
  ·exact H.elim
  ·obtain⟨cs,h1,h2⟩:=H;exact⟨cs,h1,ih h2⟩
 | fn f s ih=>intro m vs H;cases m<;>(obtain⟨cs,h1,h2⟩:=H;exact⟨cs,h1,ih h2⟩)
 | _=>intro m vs H;cases m<;>exact H
theorem ym(F:List G)(n b:Nat):(own F).count b=(own (F.take n)).count b+(own (F.drop n)).count b:=by
 have h:own F=own (F.take n)++own (F.drop n):=by unfold own;rw[←List.flatMap_append,List.take_append_drop]
 rw[h,List.count_append]
theorem mX{β:Type}(l:List β):own (l.map fun _=>(T.nil:G))=[]:=by
 induction l with
 | nil=>rfl
 | cons a l ih=>simpa[own,T.owned] using ih
theorem rF{F:List G}{k:Nat}{g:G}(hk:F[k]? = some g){b:Nat}:g.owned.count b≤(own F).count b:=by
 have:=cQ hk (.nil) b
 simp only[T.owned,List.count_nil] at this;omega
theorem jo.call{c:Cx}{X:List D}{κ0:List (Nat×Path)}{w w':World}{I I':Nat→Prop}{F F':List G}(hi:Inv c X κ0 w I F){aC:List (Nat×Path)}(hn:(aC.map (·.1)).Nodup)
  (hok:∀e∈aC,e.1<F.length∧(F.getD e.1 .nil).dU e.2=true∧T.noEntry false (F.getD e.1 .nil) e.2=true) {X':List D} {κ:List (Nat×Path)}
  (hc:Inv ⟨c.P,0,w,I,nodes F aC⟩ X' κ w' I' F'):jo w w' I I' F (joined aC F' F) (Hu aC κ) c.F0.length:=by
 have hnl:(nodes F aC).length=aC.length:=by simp[nodes]
 have hlen:aC.length≤F'.length:=by
  rcases Nat.lt_or_ge F'.length aC.length with h|h
  ·obtain⟨g,hg,_⟩:=hc.base F'.length _ (List.getElem?_eq_getElem (by rw[hnl];exact h))
   simp at hg
  ·exact h
 have lF:∀e∈aC,e.1<F.length∧(F.getD e.1 .nil).dU e.2=true:=fun e he=>⟨(hok e he).1,(hok e he).2.1⟩
 have jm:=fun b=>fN b aC (F'.take aC.length) F hn (by simp;omega) lF
 have hsplit:=fun b=>ym F' aC.length b
 have hall:∀b,(own (joined aC F' F)).count b+(own (nodes F aC)).count b=(own F).count b+(own F').count b:=fun b=>by
  have h1:=jm b
  have h2:=hsplit b
  have h3:(own (joined aC F' F)).count b=(own (back aC (F'.take aC.length) F)).count b+(own (F'.drop aC.length)).count b:=by simp[joined,own]
  omega
 have hone:=fun b=>aS hi.nodup b
 have aeA:=fun b=>aS hc.nodup b
 have hold:∀b,w.heap.size≤b→(own F).count b=0:=fun b hb=>List.count_eq_zero.2 fun hm=>by have:=hi.lt b hm;omega
 have nu:∀b,(own (nodes F aC)).count b≤(own F).count b+(own F').count b:=fun b=>by have:=hall b;omega
 have hfr:∀b,b∈own F'→b<w.heap.size→b∈own (nodes F aC):=fun b hb hlt=>hc.fresh b hb hlt
 have hsub:∀b,b∈own (nodes F aC)→b∈own F:=fun b hb=>by
  simp only[own,nodes,List.mem_flatMap,List.mem_map] at hb ⊢
  obtain⟨g,⟨e,he,rfl⟩,hb⟩:=hb
  obtain⟨h1,h2⟩:=lF e he
  refine⟨F.getD e.1 .nil,?_,?_⟩
  ·rw[List.getD_eq_getElem?_getD,List.getElem?_eq_getElem h1];exact List.getElem_mem h1
  ·have:=(T.eF h2 b).1
   rw[aq] at hb ⊢;omega
 have XH:∀b,(own (joined aC F' F)).count b≤1:=fun b=>by
  have h1:=hall b
  have h2:=hone b
  have h3:=aeA b
  by_cases hb:b∈own F'
  ·rcases Nat.lt_or_ge b w.heap.size with hlt|hlt
   ·have:=hfr b hb hlt
    rw[aq] at this;omega
   ·have:=hold b hlt;omega
  ·have:(own F').count b=0:=List.count_eq_zero.2 hb
   omega
 have hmem:∀b,b∈own (joined aC F' F)→b∈own F'∨(b∈own F∧b∉own (nodes F aC)):=fun b hb=>by
  by_cases h':b∈own F'
  ·exact .inl h'
  ·have h1:=hall b
   have h2:=hone b
   have:(own F').count b=0:=List.count_eq_zero.2 h'
   rw[aq] at hb
   refine .inr ⟨by rw[aq];omega,fun hm=>?_⟩
   rw[aq] at hm;omega
 have hheap:∀b,b<w.heap.size→b∉own (nodes F aC)→w'.heap[b]? = w.heap[b]?:=fun b h1 h2=>hc.frame b h1 h2
 have hI:∀b,I b→w'.heap[b]? = w.heap[b]?:=fun b hb=>hheap b (hi.ic b hb) fun hm=>hi.apart b (hsub b hm) hb
 have A6:∀(i k:Nat) (p:Path),aC[i]? = some (k,p)→(nodes F aC)[i]? = some ((F.getD k .nil).at_ p):=fun i k p h=>by rw[nodes,List.getElem?_map,h];rfl
 constructor
 case holds =>
  intro g hg
  rcases List.mem_append.1 hg with h|h
  ·obtain⟨k,hk⟩:=List.getElem?_of_mem h
   have mc:k<F.length:=by have:=(List.getElem?_eq_some_iff.1 hk).1;rwa [iH] at this
   rcases xC (xs:=F'.take aC.length) hn (by simp;omega) mc with ⟨i,p,x,f,h1,h2,h3,h4⟩|⟨h1,h2⟩
   ·rw[h4] at hk
    cases hk
    obtain⟨_,e1,e2⟩:=hok _ (List.mem_of_getElem? h1)
    have vW:F.getD k .nil=f:=by simp[List.getD_eq_getElem?_getD,h3]
    simp only[vW] at e1 e2
    have hx:F'[i]? = some x:=by
     have hil:=(List.getElem?_eq_some_iff.1 h1).1
     rw[List.getElem?_take_of_lt hil] at h2;exact h2
    obtain⟨x',g1,g2,_⟩:=hc.base i _ (A6 i k p h1)
    rw[hx] at g1;cases g1
    rw[vW] at g2
    refine T.Holds.sG (hc.holds x (List.mem_of_getElem? hx)) hI hc.ek (hi.holds f (List.mem_of_getElem? h3)) e1 e2 g2 (fun h=>by cases h) fun b hb=>?_
    have hr:=(T.eF e1 b).1
    have hf:=rF h3 (b:=b)
    have hb':b∈own F:=fS h3 (by rw[aq] at hb ⊢;omega)
    refine hheap b (hi.lt b hb') fun hm=>?_
    have hin:(own (nodes F aC)).count b+(f.rest p).count b≤(own F).count b:=by
     have hq:=fN b aC (nodes F aC) (F) hn hnl lF
     have key:∀(aC:List (Nat×Path)) (F:List G) (i:Nat),(aC.map (·.1)).Nodup→(∀e∈aC,e.1<F.length∧(F.getD e.1 .nil).dU e.2=true)→aC[i]? = some (k,p)→F[k]? = some f →
       (own (nodes F aC)).count b+(f.rest p).count b≤(own F).count b:=by
      intro aC F i hn hok hi hf
      have h1:=fN b aC (aC.map fun _=>T.nil) F hn (by simp) hok
      have hz:(own (aC.map fun _=>(T.nil:G))).count b=0:=by rw[mX];rfl
      have h2:(back aC (aC.map fun _=>T.nil) F)[k]? = some (f.set p .nil):=A5 aC _ F hn hi (by rw[List.getElem?_map,hi];rfl) hf
      have h3:=rF h2 (b:=b)
      obtain⟨_,qD⟩:=hok _ (List.mem_of_getElem? hi)
      have vW:F.getD k .nil=f:=by simp[List.getD_eq_getElem?_getD,hf]
      simp only[vW] at qD
      have h4:=(T.eF qD b).2 .nil
      simp only[T.owned,List.count_nil,Nat.zero_add] at h4
      omega
     exact key aC F i hn lF h1 h3
    have:=hone b
    rw[aq] at hb hm
    omega
   ·rw[h2] at hk
    refine(hi.holds g (List.mem_of_getElem? hk)).agree (fun b hb=>?_) hI hc.ek
    refine hheap b (hi.lt b (fS hk hb)) fun hm=>?_
    have key:(own (nodes F aC)).count b+g.owned.count b≤(own F).count b:=by
     have h3:=fN b aC (aC.map fun _=>T.nil) F hn (by simp) lF
     have hz:(own (aC.map fun _=>(T.nil:G))).count b=0:=by rw[mX];rfl
     have h4:(back aC (aC.map fun _=>T.nil) F)[k]? = some g:=by rw[oh _ _ _ h1];exact hk
     have h5:=rF h4 (b:=b)
     omega
    have:=hone b
    rw[aq] at hb hm
    omega
  ·exact hc.holds g (List.mem_of_mem_drop h)
 case nodup=>exact bu XH
 case apart =>
  intro b hb YS
  rcases hmem b hb with h|⟨h1,h2⟩
  ·exact hc.apart b h YS
  ·rcases hc.gY b YS with h|h|h
   ·exact hi.apart b h1 h
   ·have:=hi.lt b h1;simp only at h;omega
   ·exact h2 h
 case mine =>
  intro b hb
  rcases hmem b hb with h|⟨h1,_⟩
  ·rcases Nat.lt_or_ge b w.heap.size with hlt|hlt
   ·exact .inl (hsub b (hfr b h hlt))
   ·exact .inr hlt
  ·exact .inl h1
 case lt =>
  intro b hb
  rcases hmem b hb with h|⟨h1,_⟩
  ·exact hc.lt b h
  ·exact Nat.lt_of_lt_of_le (hi.lt b h1) hc.size
 case ic=>exact hc.ic
 case heap=>exact fun b h1 h2=>hheap b h1 fun hm=>h2 (hsub b hm)
 case size=>exact hc.size
 case os=>exact hc.os
 case tape=>exact hc.tape
 case output=>exact hc.output
 case ek=>exact hc.ek
 case gY =>
  intro b hb
  rcases hc.gY b hb with h|h|h
  ·exact .inl h
  ·exact .inr (.inr h)
  ·exact .inr (.inl (hsub b h))
 case keep =>
  intro k g hg
  have mc:=(List.getElem?_eq_some_iff.1 hg).1
  have hleft:(joined aC F' F)[k]? = (back aC (F'.take aC.length) F)[k]?:=by unfold joined;rw[List.getElem?_append_left (by rw[iH];exact mc)]
  rw[hleft]
  rcases xC (xs:=F'.take aC.length) hn (by simp;omega) mc with ⟨i,p,x,f,h1,h2,h3,h4⟩|⟨h1,h2⟩
  ·rw[hg] at h3;cases h3
   obtain⟨_,e1,e2⟩:=hok _ (List.mem_of_getElem? h1)
   have vW:F.getD k .nil=g:=by simp[List.getD_eq_getElem?_getD,hg]
   simp only[vW] at e1 e2
   have hx:F'[i]? = some x:=by
    have hil:=(List.getElem?_eq_some_iff.1 h1).1
    rw[List.getElem?_take_of_lt hil] at h2;exact h2
   obtain⟨x',g1,g2,g3,g4,g5⟩:=hc.base i _ (A6 i k p h1)
   rw[hx] at g1;cases g1
   rw[vW] at g2 g3 g4 g5
   have hw:=T.iZ g2
   refine⟨g.set p x,h4,fun _=>T.dy e1 g2,fun q hq=>?_,fun q hq=>?_,fun q v hj hq=>?_⟩
   ·by_cases hr:∃r,q=p++r
    ·obtain⟨r,rfl⟩:=hr
     exact T.yl e1 hw (g3 r (uf h1 hq))
    ·exact T.vr hw fun r hr'=>absurd ⟨r,hr'⟩ hr
   ·by_cases hr:∃r,q=p++r
    ·obtain⟨r,rfl⟩:=hr
     rw[T.cY,T.cY,T.gF e1]
     exact g4 r (uf h1 hq)
    ·exact T.vt fun r hr'=>hr ⟨r,hr'⟩
   ·by_cases hr:∃r,q=p++r
    ·obtain⟨r,rfl⟩:=hr
     rw[T.cY,T.gF e1]
     rw[T.cY] at hj
     exact g5 r v hj (uf h1 hq)
    ·exact T.pJ e1 hj fun r hr'=>hr ⟨r,hr'⟩
  ·exact⟨g,by rw[h2];exact hg,fun _=>rfl,fun _ _=>rfl,fun _ _=>rfl,fun _ _ h _=>h⟩
theorem ai.call{c:Cx}{f:FuncId}{Y:List D}{args:AV}{R:AV→List D→List (Nat×Path)→Prop}(h:ai c.P f Y args R){st:St}{me:AV}{K:AV→St→Prop}(aC:List (Nat×Path))
  (hn:(aC.map (·.1)).Nodup) (oE:eU st aC Y) (ha:args.kO aC st.X.length=me) (hok:args.fH aC.length=true)
  (hx:aC=[]∨me.still=false) (hK:∀av X κ,R av X κ→K (av.kO aC st.X.length) (st.after c.F0.length aC X κ)):bx c f me st K:=by
 intro a w vs ⟨hd,hs,I,F,hi,he,hp,hxs⟩
 refine⟨h.1,?_⟩
 obtain⟨p1,p2,p3⟩:=gW oE
 have yd:F.length=st.X.length:=by rw[←hi.erase];simp
 have fD:∀k,st.tree k=(F.getD k .nil).erase:=fun k=>by
  rw[St.tree,←hi.erase,List.getD_eq_getElem?_getD,List.getElem?_map,List.getD_eq_getElem?_getD]
  cases F[k]? <;> rfl
 have gX:∀e∈aC,e.1<F.length∧(F.getD e.1 .nil).dU e.2=true∧T.noEntry false (F.getD e.1 .nil) e.2=true:=fun e he=>by
  obtain⟨h1,h2,h3,_⟩:=p2 e he
  rw[fD,T.gL] at h2
  rw[fD,T.eW] at h3
  exact⟨by omega,h2,h3⟩
 have pq:∀e∈aC,(F.getD e.1 .nil).dU e.2=true∧aW ((F.getD e.1 .nil).at_ e.2)=true:=fun e he=>by
  obtain⟨h1,h2,h3,h4⟩:=p2 e he
  rw[fD,←T.bJ,kP] at h4
  exact⟨(gX e he).2.1,h4⟩
 have hY:(nodes F aC).map T.erase=Y:=by
  rw[←p3,nodes,List.map_map]
  exact List.map_congr_left fun e he=>by simp only[Function.comp_apply,fD,T.bJ]
 subst ha
 have hargs:=pz pq args hok hxs
 have hsub:∀b,(own (nodes F aC)).count b≤(own F).count b:=fun b=>by
  have h3:=fN b aC (aC.map fun _=>T.nil) F hn (by simp) fun e he=>⟨(gX e he).1,(gX e he).2.1⟩
  have hz:(own (aC.map fun _=>(T.nil:G))).count b=0:=by rw[mX];rfl
  omega
 have hmem:∀b∈own (nodes F aC),b∈own F:=fun b hb=>by have:=hsub b;rw[aq] at *;omega
 refine Calls.mono (h.2 w I (nodes F aC) vs hY (fun g hg=>?_) (bu fun b=>Nat.le_trans (hsub b) (aS hi.nodup b)) (fun b hb=>hi.apart b (hmem b hb)) (fun b hb=>hi.lt b (hmem b hb)) hi.ic hargs) ?_
 ·simp only[nodes,List.mem_map] at hg
  obtain⟨e,he,rfl⟩:=hg
  have h1:=(gX e he).1
  refine T.Holds.at_ (hi.holds _ ?_) e.2
  rw[List.getD_eq_getElem?_getD,List.getElem?_eq_getElem h1];exact List.getElem_mem h1
 ·rintro e w' ⟨v,av,X,κ,I',F',rfl,hR,hc,hv⟩
  have S:=jo.call hi hn gX hc
  have hres:=sF (F':=F') hn (fun e he=>⟨(gX e he).1,(gX e he).2.1⟩) av hv
  refine⟨v,_,_,rfl,hK av X κ hR,⟨hd.step hi S,hs,I',joined aC F' F,?_,he.step hi S,hp.step hi S,by rw[←yd];exact hres⟩,fun hst b hb=>?_⟩
  rotate_left
  ·rcases hx with hx|hx
   ·subst hx;exact hc.frame b hb (by simp[nodes,own])
   ·rw[hst] at hx;cases hx
  have h2:=hi.step S
  have q9:(joined aC F' F).map T.erase=(st.after c.F0.length aC X κ).X:=by
   simp only[joined,St.after,List.map_append,lJ,hi.erase,List.map_take,List.map_drop,hc.erase]
  rw[q9] at h2
  refine h2.iY fun k q s hk oG=>?_
  simp only[St.after] at oG
  rw[aM,Bool.or_eq_false_iff] at oG ⊢
  refine⟨?_,oG.2⟩
  have h3:=oG.1
  unfold dead at h3 ⊢
  rw[List.any_eq_false] at h3 ⊢
  rintro⟨k0,q0⟩ hm hx
  refine h3 (k0,q0) (List.mem_filter.2 ⟨hm,?_⟩) hx
  simp only[Bool.and_eq_true,beq_iff_eq] at hx
  rw[←hx.1]
  exact Nat.ble_eq_true_of_le hk
end Go.Vc

namespace Go.Vc
set_option linter.all false
open T (cM blk)
def az {α:Type} (x:α) (K:α→Prop):Prop:=K x
@[irreducible] def tick {α:Type} (x:α):α:=x
@[simp] theorem bl{α:Type}(x:α):tick x=x:=by unfold tick;rfl
@[congr] theorem Y2{α:Type}{x x':α}{K:α→Prop}(h:tick x=x'):az x K=az x' K:=by rw[bl] at h;rw[h]
@[congr] theorem XI{c:Cx}{f f':FuncId}{me DP:AV}{st st':St}{K:AV→St→Prop}(h0:tick f=f')(h1:me=DP)(h2:st=st'):bx c f me st K=bx c f' DP st' K:=Ei ((bl _).symm.trans h0) h1 h2
@[congr] theorem abh{P:Program}{t:TypeId}{op:BinOp}{s s' u u':AV}{K:AV→Prop}(h1:tick s=s')(h2:u=u'):jv P t op s u K=jv P t op s' u' K:=MV ((bl _).symm.trans h1) h2
@[congr] theorem aeB{c:Cx}{code:Code}{K:Exit→St→Prop}{st st':St}(h:tick st=st'):VC c code K st=VC c code K st':=by rw[bl] at h;rw[h]
@[congr] theorem Y3{c:Cx}{τ:bg}{gs:List (Nat×Tmp)}{l:List Oper}{i i':Nat}{st st':St}{K:St→Prop}(hi:i=i')(h:tick st=st'):eL c τ gs l i st K=eL c τ gs l i' st' K:=by rw[bl] at h;rw[h,hi]
@[congr] theorem abi{c:Cx}{τ:bg}{o:Oper}{st st':St}{K:AV→St→Prop}(h:tick st=st'):cF c τ o st K=cF c τ o st' K:=by rw[bl] at h;rw[h]
@[congr] theorem XJ{τ:bg}{o:Op}{ty:TypeId}{st st':St}{K:AV→Prop}(h:tick st=st'):jI τ o ty st K=jI τ o ty st' K:=by rw[bl] at h;rw[h]
@[congr] theorem Y4{τ:bg}{nb uP:Nat}{o:Op}{st st':St}{K:AV→St→Prop}(h0:tick nb=uP)(h:st=st'):fI τ nb o st K=fI τ uP o st' K:=by rw[bl] at h0;rw[h,h0]
@[congr] theorem XK{τ:bg}{o:Op}{st st':St}{K:AV→Prop}(h:tick st=st'):mI τ o st K=mI τ o st' K:=by rw[bl] at h;rw[h]
@[congr] theorem Y5{gs:List (Nat×Tmp)}{i i':Nat}{dst:Option Tmp}{av oK:AV}{st st':St}{K:St→Prop}(h0:tick i=i')(h1:av=oK)(h:st=st'):eO gs i dst av st K=eO gs i' dst oK st' K:=by rw[bl] at h0;rw[h,h0,h1]
@[congr] theorem Y6{τ:bg}{op:BinOp}{t:TypeId}{x x' y y':AV}{K:AV→Prop}(h1:tick x=x')(h2:y=y'):jt τ op t x y K=jt τ op t x' y' K:=by rw[bl] at h1;rw[h1,h2]
@[congr] theorem Y7{op:BinOp}{k k':IntKind}{m m' n n':Int}{K:AV→Prop}(h1:tick m=m')(h2:n=n'):js op k k' m n K=js op k k' m' n' K:=by rw[bl] at h1;rw[h1,h2]
@[congr] theorem Y8{op:BinOp}{s s' u u':ByteArray}{K:AV→Prop}(h1:tick s=s')(h2:u=u'):oA op s u K=oA op s' u' K:=by rw[bl] at h1;rw[h1,h2]
@[congr] theorem abj{op:BinOp}{b b':Bool}{K:AV→Prop}(h1:tick b=b'):jC op b K=jC op b' K:=by rw[bl] at h1;rw[h1]
@[congr] theorem Y9{b b':Bool}{K:AV→Prop}(h1:tick b=b'):eE K b=eE K b':=by rw[bl] at h1;rw[h1]
@[congr] theorem Za{nb uP:Nat}{st st':St}{av oK:AV}{K:AV→St→Prop}(h0:tick nb=uP)(h:st=st')(h1:av=oK):xA nb st av K=xA uP st' oK K:=by rw[bl] at h0;rw[h,h0,h1]
@[congr] theorem Zb{nb uP z n:Nat}{st st':St}{av oK:AV}{K:AV→St→Prop}(h0:tick nb=uP)(h:st=st')(h1:av=oK):Eg nb st z n av K=Eg uP st' z n oK K:=by rw[bl] at h0;rw[h,h0,h1]
@[congr] theorem Vi{nb uP:Nat}{st st':St}{av oK:AV}{k k':Nat}{q q':Path}{K:AV→St→Prop}(h0:tick nb=uP)(h:st=st')(h1:av=oK)(h2:k=k')(h3:q=q'):sX nb st av k q K=sX uP st' oK k' q' K:=by rw[bl] at h0;rw[h,h0,h1,h2,h3]
@[congr] theorem Zc{nb uP z cL:Nat}{st st':St}{b b' x x':AV}{K:AV→St→Prop}(h0:tick nb=uP)(h:st=st')(h1:b=b')(h2:x=x'):pM nb z cL st b x K=pM uP z cL st' b' x' K:=by rw[bl] at h0;rw[h,h0,h1,h2]
@[congr] theorem TI{nb uP z cL:Nat}{st st':St}{b b' x x':AV}{K:AV→St→Prop}(h0:tick nb=uP)(h:st=st')(h1:b=b')(h2:x=x'):ct nb z cL st b x K=ct uP z cL st' b' x' K:=by rw[bl] at h0;rw[h,h0,h1,h2]
@[congr] theorem Vj{nb uP z cL:Nat}{st st':St}{b b' x x':AV}{K:AV→St→Prop}(h0:tick nb=uP)(h:st=st')(h1:b=b')(h2:x=x'):gq nb z cL st b x K=gq uP z cL st' b' x' K:=by rw[bl] at h0;rw[h,h0,h1,h2]
@[congr] theorem Vk{nb uP z cL j lo n:Nat}{st st':St}{x x':AV}{K:AV→St→Prop}(h0:tick nb=uP)(h:st=st')(h2:x=x'):fT nb z cL st j lo n x K=fT uP z cL st' j lo n x' K:=by rw[bl] at h0;rw[h,h0,h2]
@[congr] theorem TJ{nb uP z cL j n:Nat}{st st':St}{x x':AV}{K:AV→St→Prop}(h0:tick nb=uP)(h:st=st')(h2:x=x'):jj nb z cL st j n x K=jj uP z cL st' j n x' K:=by rw[bl] at h0;rw[h,h0,h2]
@[congr] theorem Vl{st st':St}{place:Nat→Option (Nat×Nat)}{s s':AV}{l:List (Nat×Operand)}{K:AV→Prop}(h:tick st=st')(h1:s=s'):gP st place s l K=gP st' place s' l K:=by rw[bl] at h;rw[h,h1]
@[congr] theorem Vm{τ:bg}{st st':St}{t:TypeId}{l:List (Nat×Operand)}{K:AV→Prop}(h:tick st=st'):oc τ st t l K=oc τ st' t l K:=by rw[bl] at h;rw[h]
@[congr] theorem Vn{τ:bg}{st st':St}{t:TypeId}{x x':AV}{lo lo' hi hi' mx mx':Option AV}{K:AV→Prop}(h:tick st=st')(h1:x=x')(h2:lo=lo')(h3:hi=hi')(h4:mx=mx'):oa τ st t x lo hi mx K=oa τ st' t x' lo' hi' mx' K:=by rw[bl] at h;rw[h,h1,h2,h3,h4]
@[congr] theorem Vo{x x':Option AV}{d d':Nat}{K:Nat→Prop}(h:tick x=x')(h1:d=d'):cj x d K=cj x' d' K:=by rw[bl] at h;rw[h,h1]
@[congr] theorem XL{av oK:AV}{t f:Prop}(h:tick av=oK):lT av t f=lT oK t f:=by rw[bl] at h;rw[h]
@[congr] theorem Zd{n:St→Prop}{K:Exit→St→Prop}{e e':Exit}{st st':St}(h:tick e=e')(h1:st=st'):eN n K e st=eN n K e' st':=by rw[bl] at h;rw[h,h1]
@[congr] theorem XM{id:Nat}{K:Exit→St→Prop}{e e':Exit}{st st':St}(h:tick e=e')(h1:st=st'):mJ id K e st=mJ id K e' st':=by rw[bl] at h;rw[h,h1]
section
variable {α β:Type} (K:α→Prop)
theorem TK(v:Value)(K:AV→Prop):az (.val v) K=K (.val v):=rfl
theorem TL(K:AV→Prop):az .bad K=K .bad:=rfl
theorem TM(z:Nat)(K:AV→Prop):az (.cut z) K=K (.cut z):=rfl
theorem MW(z:Nat)(K:AV→Prop):az (.bE z) K=K (.bE z):=rfl
theorem TN(k:Nat)(q:Path)(K:AV→Prop):az (.ptr k q) K=K (.ptr k q):=rfl
theorem TO(k:Nat)(q:Path)(lo n:Nat)(ex:Bool)(K:AV→Prop):az (.sub k q lo n ex) K=K (.sub k q lo n ex):=rfl
theorem XN(k:Nat)(q:Path)(K:AV→Prop):az (.mp k q) K=K (.mp k q):=rfl
theorem TP(z:Nat)(s:D)(ex:Bool)(K:AV→Prop):az (.cA z s ex) K=K (.cA z s ex):=rfl
theorem MX(d:D)(K:AV→Prop):az (.fP d) K=K (.fP d):=rfl
theorem TQ(K:AV→Prop):az .nil K=K .nil:=rfl
theorem MY(a t:AV)(K:AV→Prop):az (.cons a t) K=K (.cons a t):=rfl
theorem TS(s:AV)(K:AV→Prop):az (.agg s) K=K (.agg s):=rfl
theorem TT(s:AV)(K:AV→Prop):az (.cT s) K=K (.cT s):=rfl
theorem XO(f:FuncId)(s:AV)(K:AV→Prop):az (.fn f s) K=K (.fn f s):=rfl
theorem bind_some(x:α)(K:Option α→Prop):az (some x) K=K (some x):=rfl
theorem bind_none(K:Option α→Prop):az none K=K none:=rfl
theorem MZ(K:Bool→Prop):az true K=K true:=rfl
theorem Hv(K:Bool→Prop):az false K=K false:=rfl
theorem M0(x:α)(y:β)(K:α×β→Prop):az (x,y) K=K (x,y):=rfl
theorem XP(u:D)(m:Nat)(X:List D)(κ:List (Nat×Path))(K:Sc→Prop):az ⟨u,m,X,κ⟩ K=K ⟨u,m,X,κ⟩:=rfl
theorem XQ(u:D)(X:List D)(κ:List (Nat×Path))(pl:List (Path×AV))(K:Tk→Prop):az ⟨u,X,κ,pl⟩ K=K ⟨u,X,κ,pl⟩:=rfl
theorem XR(u:Env)(X:List D)(κ:List (Nat×Path))(pl:List (Nat×Path×AV))(K:St→Prop):az ⟨u,X,κ,pl⟩ K=K ⟨u,X,κ,pl⟩:=rfl
theorem M1(v:Value)(K:D→Prop):az (.val v) K=K (.val v):=rfl
theorem Hw(K:D→Prop):az (.aH ()) K=K (.aH ()):=rfl
theorem M3(K:D→Prop):az .nil K=K .nil:=rfl
theorem Hx(a t:D)(K:D→Prop):az (.cons a t) K=K (.cons a t):=rfl
theorem M4(s:D)(K:D→Prop):az (.agg s) K=K (.agg s):=rfl
theorem TU(o:Bool)(z:Nat)(s:D)(K:D→Prop):az (.sl o () z s) K=K (.sl o () z s):=rfl
theorem M5(o:Bool)(s:D)(K:D→Prop):az (.box o () s) K=K (.box o () s):=rfl
theorem M6(o:Bool)(s:D)(K:D→Prop):az (.map o () s) K=K (.map o () s):=rfl
end
section
variable {c:Cx} {τ:bg} {gs:List (Nat×Tmp)} {st:St}
theorem abk{i:Nat}{K:St→Prop}:eL c τ gs [] i st K=K st:=rfl
theorem XS{dst:Option Tmp}{op:Op}{ty:TypeId}{pos:String}{after:Array Edge}{r:List Oper}{i:Nat}{K:St→Prop} :
  eL c τ gs (⟨dst,op,ty,pos,after,none⟩::r) i st K=cF c τ ⟨dst,op,ty,pos,after,none⟩ st fun av st'=>eO gs i dst av st' fun st=>eL c τ gs r (i+1) st K:=rfl
theorem TV{dst:Option Tmp}{op:Op}{ty:TypeId}{pos:String}{after:Array Edge}{g:Nat×Bool}{r:List Oper}{i:Nat}{K:St→Prop} :
  eL c τ gs (⟨dst,op,ty,pos,after,some g⟩::r) i st K=az (guardOf gs st (some g)) fun b=>match b with
   | some true=>cF c τ ⟨dst,op,ty,pos,after,some g⟩ st fun av st'=>eO gs i dst av st' fun st=>eL c τ gs r (i+1) st K
   | some false=>eL c τ gs r (i+1) (st.put dst (.cT .nil)) K
   | none=>False:=rfl
theorem put_eq{i:Nat}{dst:Option Tmp}{av:AV}{K:St→Prop}:eO gs i dst av st K=az (oC gs i) fun b=>match b with
  | some _=>az av fun av=>match av with
   | .val (.bool b)=>(b=true→K (st.put dst (.val (.bool true))))∧(b=false→K (st.put dst (.val (.bool false))))
   | av=>K (st.put dst av)
  | none=>K (st.put dst av):=by
 unfold eO az
 cases oC gs i with
 | none=>rfl
 | some t=>split<;>simp_all
section
variable {dst:Option Tmp} {ty:TypeId} {pos:String} {after:Array Edge} {g:Option (Nat×Bool)} {K:AV→St→Prop}
theorem XT{t:TypeId}{x:Operand}:cF c τ ⟨dst,.load t x,ty,pos,after,g⟩ st K=mI τ (.load t x) st fun av=>K av st:=rfl
theorem TW{t:TypeId}{p x:Operand}:cF c τ ⟨dst,.store t p x,ty,pos,after,g⟩ st K=fI τ c.F0.length (.store t p x) st K:=rfl
theorem TX{t:TypeId}:cF c τ ⟨dst,.alloc t,ty,pos,after,g⟩ st K=fI τ c.F0.length (.alloc t) st K:=rfl
theorem abl{t:TypeId}{x:Operand}:cF c τ ⟨dst,.box t x,ty,pos,after,g⟩ st K=fI τ c.F0.length (.box t x) st K:=rfl
theorem abm{t:TypeId}{n:Nat}{ps:Array (Nat×Operand)}:cF c τ ⟨dst,.buildSlice t n ps,ty,pos,after,g⟩ st K=fI τ c.F0.length (.buildSlice t n ps) st K:=rfl
theorem TY{t:TypeId}{ps:List (Nat×Operand)}:cF c τ ⟨dst,.build t ps.toArray,ty,pos,after,g⟩ st K=oc τ st t ps fun av=>K av st:=by simp[cF]
theorem TZ{t:TypeId}{x:Operand}{lo hi mx:Option Operand}:cF c τ ⟨dst,.slice t x lo hi mx,ty,pos,after,g⟩ st K =
  ((mx≠none→hi≠none)∧oa τ st t (st.jO τ t x) (lo.map st.ev) (hi.map st.ev) (mx.map st.ev) fun av=>K av st):=rfl
theorem M7{x y:Operand}{t:TypeId}:cF c τ ⟨dst,.call ⟨.builtin .append,#[x,y],#[t,t]⟩,ty,pos,after,g⟩ st K=fI τ c.F0.length (.call ⟨.builtin .append,#[x,y],#[t,t]⟩) st K:=by
 simp[cF,TD]
theorem abn{as:Array Operand}{ts:Array TypeId}:cF c τ ⟨dst,.call ⟨.builtin .len,as,ts⟩,ty,pos,after,g⟩ st K=jI τ (.call ⟨.builtin .len,as,ts⟩) ty st fun av=>K av st:=rfl
theorem XU{f:Operand}{as:List Operand}{ts:List TypeId}:cF c τ ⟨dst,.call ⟨.value f,as.toArray,ts.toArray⟩,ty,pos,after,g⟩ st K=az (st.ev f) fun f=>match f with
  | .fn h s=>s.cI=true∧bx c h ((jF τ st as ts).app s) st K
  | _=>False:=rfl
theorem abo{op:BinOp}{t PZ:TypeId}{x y:Operand}:cF c τ ⟨dst,.binOp op t x y PZ,ty,pos,after,g⟩ st K=az (st.ev x) fun x=>az (st.ev y) fun y=>match x,y with
  | .agg s,.agg u=>(op=.eql∨op=.neq)∧jv c.P t op s u fun av=>K av st
  | x,y=>jt τ op t x y fun av=>K av st:=by
 unfold cF az
 simp only
 split
 ·simp_all
 ·rename_i h
  split
  ·rename_i s u h1 h2;exact absurd h2 (h s u h1)
  ·rfl
end
section
variable {ty:TypeId} {K:AV→Prop}
theorem XV{dst:Option Tmp}{pos:String}{after:Array Edge}{g:Option (Nat×Bool)}{K:AV→St→Prop}{x:Operand}:cF c τ ⟨dst,.move x,ty,pos,after,g⟩ st K=az (st.jO τ ty x) fun av=>K av st:=rfl
theorem M8{dst:Option Tmp}{pos:String}{after:Array Edge}{g:Option (Nat×Bool)}{K:AV→St→Prop}{x:Operand}:cF c τ ⟨dst,.assign x,ty,pos,after,g⟩ st K=az (st.jO τ ty x) fun av=>K av st:=rfl
theorem XW{dst:Option Tmp}{pos:String}{after:Array Edge}{g:Option (Nat×Bool)}{K:AV→St→Prop}{x a b:Operand}:cF c τ ⟨dst,.pick x a b,ty,pos,after,g⟩ st K=az (st.ev x) fun x=>match x with
  | .val (.bool t)=>(t=true→K (st.jO τ ty a) st)∧(t=false→K (st.jO τ ty b) st)
  | _=>False:=rfl
theorem El{dst:Option Tmp}{pos:String}{after:Array Edge}{g:Option (Nat×Bool)}{K:AV→St→Prop}{x:Operand}:cF c τ ⟨dst,.nilCheck x,ty,pos,after,g⟩ st K=az (st.ev x) fun x=>match x with
  | .ptr k q=>K (.ptr k q) st
  | .fP d=>K (.fP d) st
  | .fn f s=>K (.fn f s) st
  | .mp k q=>K (.mp k q) st
  | _=>False:=rfl
theorem XX{dst:Option Tmp}{pos:String}{after:Array Edge}{g:Option (Nat×Bool)}{K:AV→St→Prop}{op:UnOp}{t:TypeId}{x:Operand}:cF c τ ⟨dst,.unOp op t x,ty,pos,after,g⟩ st K=az (st.ev x) fun x=>match op,x with
  | .not,.val (.bool b)=>eE (fun av=>K av st) (!b)
  | .neg,.val (.int k n)=>K (.val (.int k (k.wrap (0-n)))) st
  | _,_=>False:=rfl
theorem Hy{dst:Option Tmp}{pos:String}{after:Array Edge}{g:Option (Nat×Bool)}{K:AV→St→Prop}{src dt:TypeId}{x:Operand}:cF c τ ⟨dst,.convert src dt x,ty,pos,after,g⟩ st K =
  az (τ src).int fun s=>az (τ dt).int fun d=>az (st.ev x) fun x=>match s,d,x with
  | some _,some k,.val (.int _ n)=>K (.val (.int k (k.wrap n))) st
  | _,_,_=>False:=rfl
theorem A7{dst:Option Tmp}{pos:String}{after:Array Edge}{g:Option (Nat×Bool)}{K:AV→St→Prop}{t:TypeId}{x:Operand}{i:Nat}:cF c τ ⟨dst,.fieldAddr t x i,ty,pos,after,g⟩ st K=az (st.ev x) fun x=>match x with
  | .ptr k q=>mD τ t ((st.tree k).at_ q) i∧K (.ptr k (q++[.f i])) st
  | .fP d=>mD τ t d i∧K (.fP (d.at_ [.f i])) st
  | _=>False:=rfl
theorem A8{dst:Option Tmp}{pos:String}{after:Array Edge}{g:Option (Nat×Bool)}{K:AV→St→Prop}{t:TypeId}{x ix:Operand}:cF c τ ⟨dst,.indexAddr t x ix,ty,pos,after,g⟩ st K =
  az (st.ev x) fun x=>az (st.ev ix) fun ix=>match x,ix with
  | .sub k q lo n _,.val (.int _ i)=>((τ t).sl.map fun y=>y.2.1)=some ((st.tree k).at_ q).esz∧(0≤i∧i<(n:Int))∧K (.ptr k (q++[.i (lo+i.toNat)])) st
  | .cA z s _,.val (.int _ i)=>((τ t).sl.map fun y=>y.2.1)=some z∧(0≤i∧i<(s.len:Int))∧K (.fP (s.nth i.toNat)) st
  | .ptr k q,.val (.int _ i)=>uL τ t ((st.tree k).at_ q) i∧K (.ptr k (q++[.f i.toNat])) st
  | .fP d,.val (.int _ i)=>uL τ t d i∧K (.fP (d.at_ [.f i.toNat])) st
  | _,_=>False:=rfl
theorem T3{dst:Option Tmp}{pos:String}{after:Array Edge}{g:Option (Nat×Bool)}{K:AV→St→Prop}{t:TypeId}{x ix:Operand}:cF c τ ⟨dst,.index t x ix,ty,pos,after,g⟩ st K =
  az (st.ev x) fun x=>az (st.ev ix) fun ix=>match x,ix with
  | .agg s,.val (.int _ i)=>(τ t).ae=true∧((0≤i∧i<(s.len:Int))∧((τ t).ar.bind fun a=>if a.1=s.len then some (i.toNat*a.2) else none)=some (s.cm i.toNat))∧(s.nth i.toNat).dx=true∧K (s.nth i.toNat) st
  | _,_=>False:=rfl
theorem Hz{dst:Option Tmp}{pos:String}{after:Array Edge}{g:Option (Nat×Bool)}{K:AV→St→Prop}{x:Operand}{i:Nat}:cF c τ ⟨dst,.extract x i,ty,pos,after,g⟩ st K=az (st.ev x) fun x=>match x with
  | .cT (.cons a t)=>i<(AV.cons a t).len∧K ((AV.cons a t).nth i) st
  | _=>False:=rfl
theorem T4{x:Operand}{t:TypeId}:jI τ (.call ⟨.builtin .len,#[x],#[t]⟩) ty st K=az (st.ev x) fun x=>match x with
  | .sub _ _ _ n _=>(τ t).sl.isSome=true∧K (.val (.int .i64 (n:Int)))
  | .cA _ s _=>(τ t).sl.isSome=true∧K (.val (.int .i64 (s.len:Int)))
  | .bE _=>(τ t).sl.isSome=true∧K (.val (.int .i64 0))
  | .cut n=>(τ t).sl.isSome=true∧K (.val (.int .i64 (n:Int)))
  | .val (.string s)=>(τ t).str=true∧K (.val (.int .i64 (s.size:Int)))
  | _=>False:=rfl
theorem XY{t:TypeId}{x:Operand}:mI τ (.load t x) st K=az (st.ev x) fun x=>match x with
  | .ptr k q=>az ((st.tree k).at_ q) fun d=>u9 τ t d∧K (AV.pe st.pl k q 0 d)
  | .fP d=>u9 τ t d∧K (AV.Cn d)
  | _=>False:=rfl
end
section
variable {nb:Nat} {K:AV→St→Prop}
theorem M9{t:TypeId}{p x:Operand}:fI τ nb (.store t p x) st K=az (st.ev p) fun p=>match p with
  | .ptr k q=>az (st.jO τ t x) fun av=>av.eZ=true∧((τ t).ld.map fun y=>y.2)=some av.width∧sX nb st av k q K
  | _=>False:=rfl
theorem Na{t:TypeId}:fI τ nb (.alloc t) st K=az (τ t).zero fun z=>match z with
  | some g=>az (AV.rz g) fun av=>av.eZ=true∧xA nb st av K
  | none=>False:=by
 unfold fI az
 simp only
 split<;>simp_all[az]
theorem XZ{t:TypeId}{x:Operand}:fI τ nb (.box t x) st K=az (st.jO τ t x) fun av=>av.eZ=true∧xA nb st av K:=rfl
theorem X1{t:TypeId}{n:Nat}{ps:List (Nat×Operand)}:fI τ nb (.buildSlice t n ps.toArray) st K=az (τ t).sl fun s=>match s with
  | some (e,z,_,_)=>az (τ e).zero fun g=>match g with
   | some g=>n*z≤16777216∧n≤16777216∧g.width=z∧0<z ∧
     gP st (fun i=>some (i*z,z)) (AV.ofList (List.replicate n (AV.rz g))) ps fun s=>s.cI=true∧Eg nb st z n s K
   | none=>False
  | none=>False:=by
 unfold fI az
 simp only
 cases (τ t).sl with
 | none=>rfl
 | some x =>
  obtain⟨e,z,a,b⟩:=x
  simp only
  cases (τ e).zero<;>rfl
theorem HA{x y:Operand}{t u:TypeId}:fI τ nb (.call ⟨.builtin .append,#[x,y],#[t,u]⟩) st K=az (τ t).sl fun s=>match s with
  | some (_,z,cL,_)=>t=u∧pM nb z cL st (st.jO τ t x) (st.jO τ t y) K
  | none=>False:=rfl
theorem abp{av:AV}:xA nb st av K=az (av.lay nb st.X) fun r=>K (.ptr r.X.length [.d]) ((st.mT r).push r (.d :: ·) (.box true () r.d)):=rfl
theorem abq{z n:Nat}{av:AV}:Eg nb st z n av K=az (av.lay nb st.X) fun r=>r.d.nQ z∧r.d.len=n∧K (.sub r.X.length [] 0 n true) ((st.mT r).push r toI (.sl true () z r.d)):=rfl
theorem T5{av:AV}{k:Nat}{q:Path}:sX nb st av k q K=az (av.lay nb st.X) fun r=>(r.tree k).dU q=true∧r.d.width=((r.tree k).at_ q).width∧K .bad (st.stored nb r k q):=rfl
theorem abr{z cL:Nat}{b x:AV}:pM nb z cL st b x K=az b fun b=>match b with
  | .sub j q lo n ex=>az ex fun ex=>match ex,q,n with
   | true,[],0=>az (Nat.ble nb j) fun o=>match o with
    | true=>fT nb z cL st j lo 0 x K
    | false=>az (x.src nb z st.X) fun r=>match r with
     | some r=>az (Nat.blt 0 r.m) fun m=>match m with
      | true=>ct nb z cL st (.sub j [] lo 0 true) x K
      | false=>gq nb z cL st (.sub j [] lo 0 true) x K
     | none=>False
   | true,q,n=>az (x.src nb z st.X) fun r=>match r with
    | some r=>az (Nat.blt 0 r.m) fun m=>match m with
     | true=>ct nb z cL st (.sub j q lo n true) x K
     | false=>gq nb z cL st (.sub j q lo n true) x K
    | none=>False
   | false,[],n=>az (marked st.κ j&&Nat.beq lo 0) fun c=>match c with
    | true=>jj nb z cL st j n x K
    | false=>fT nb z cL st j lo n x K
   | false,q,n=>ct nb z cL st (.sub j q lo n false) x K
  | b=>ct nb z cL st b x K:=by
 unfold pM az
 cases b with
 | sub j q lo n ex =>
  cases ex with
  | true =>
   cases q with
   | nil =>
    cases n with
    | zero =>
     simp only
     cases Nat.ble nb j with
     | true=>rfl
     | false =>
      simp only[cond_false]
      cases x.src nb z st.X with
      | none=>rfl
      | some r=>simp only;cases Nat.blt 0 r.m<;>rfl
    | succ n =>
     simp only
     cases x.src nb z st.X with
     | none=>rfl
     | some r=>simp only;cases Nat.blt 0 r.m<;>rfl
   | cons s q =>
    simp only
    cases x.src nb z st.X with
    | none=>rfl
    | some r=>simp only;cases Nat.blt 0 r.m<;>rfl
  | false =>
   cases q with
   | nil=>simp only;cases (marked st.κ j&&Nat.beq lo 0)<;>rfl
   | cons _ _=>rfl
 | _=>rfl
theorem X2{z cL j lo n:Nat}{x:AV}:fT nb z cL st j lo n x K=az (x.src nb z st.X) fun r=>match r with
  | some r=>az (r.X[j]?) fun g=>match g with
   | some (.sl true () z' s)=>z'=z∧Nat.ble nb j=true∧fits n r.m cL ∧
    K (.sub j [] 0 (n+r.m) false) { st with env:=st.env.kill (r.κ++[(j,[])]),X:=r.X.set j (.sl true () z ((s.mid lo n).app r.u)),pl:=dK (r.κ++[(j,[])]) st.pl }
   | _=>False
  | none=>False:=by
 unfold fT az
 cases x.src nb z st.X<;>rfl
theorem T6{z cL j n:Nat}{x:AV}:jj nb z cL st j n x K=(ct nb z cL st (.sub j [] 0 n true) x K∧az (x.src nb z st.X) fun r=>match r with
  | some r=>r.m=1∧az (r.X[j]?) fun g=>match g with
   | some (.sl true () z' s)=>z'=z∧Nat.ble nb j=true∧fits n r.m cL ∧
    K (.sub j [] 0 (n+r.m) false) { env:=st.env.qK j n (r.κ++[(j,[])]),X:=r.X.set j (.sl true () z ((s.mid 0 n).app r.u)),κ:=st.κ.filter fun e=>!Nat.beq e.1 j,pl:=dK (r.κ++[(j,[])]) st.pl }
   | _=>False
  | none=>False):=by
 unfold jj az
 cases x.src nb z st.X<;>rfl
theorem X3{z cL:Nat}{b x:AV}:gq nb z cL st b x K=az (b.src nb z st.X) fun rb=>az (x.src nb z st.X) fun r=>match rb,r with
  | some rb,some r=>r.κ=[]∧r.m=0∧fits rb.m 0 cL∧K b st
  | _,_=>False:=rfl
theorem T8{z cL:Nat}{b x:AV}:ct nb z cL st b x K=az (b.src nb z st.X) fun rb=>az (x.src nb z st.X) fun r=>match rb,r with
  | some rb,some r=>rb.u.free=true∧b.tight r.m=true∧fits rb.m r.m cL ∧
    K (.sub r.X.length [] 0 (rb.m+r.m) false) { st with env:=st.env.kill r.κ,X:=r.X++[.sl true () z (rb.u.app r.u)],pl:=dK r.κ st.pl }
  | _,_=>False:=rfl
theorem Nb{place:Nat→Option (Nat×Nat)}{s:AV}{K:AV→Prop}:gP st place s [] K=K s:=rfl
theorem HB{place:Nat→Option (Nat×Nat)}{s:AV}{i:Nat}{x:Operand}{r:List (Nat×Operand)}{K:AV→Prop}:gP st place s ((i,x)::r) K=az (st.Y0 (s.nth i) x) fun av =>
  i<s.len∧av.eZ=true∧av.width=(s.nth i).width∧place i=some (s.cm i,(s.nth i).width)∧gP st place (s.br i av) r K:=rfl
theorem T9{t:TypeId}{l:List (Nat×Operand)}{K:AV→Prop}:oc τ st t l K=az (τ t).zero fun z=>az (τ t).st fun s=>az (τ t).ar fun a=>match z,s,a with
  | some (.agg s),some l',_=>gP st (fun i=>l'[i]?) (AV.rz s) l fun r=>K (.agg r)
  | some (.agg s),none,some (_,z)=>gP st (fun i=>some (i*z,z)) (AV.rz s) l fun r=>K (.agg r)
  | _,_,_=>False:=rfl
theorem T'{t:TypeId}{x:AV}{lo hi mx:Option AV}{K:AV→Prop}:oa τ st t x lo hi mx K=az x fun x=>match x with
  | .sub k q l0 n ex=>((τ t).sl.map fun y=>y.2.1)=some ((st.tree k).at_ q).esz ∧
   cj lo 0 fun l=>cj hi n fun h=>cj mx h fun m=>l≤h∧h≤n∧m=h∧K (.sub k q (l0+l) (h-l) (mx.isSome||(ex&&hi.isNone)))
  | .cA z s ex=>((τ t).sl.map fun y=>y.2.1)=some z ∧
   cj lo 0 fun l=>cj hi s.len fun h=>cj mx h fun m=>l≤h∧h≤s.len∧m=h∧K (.cA z (s.mid l (h-l)) (mx.isSome||(ex&&hi.isNone)))
  | .bE z=>(τ t).sl.isSome=true∧cj lo 0 fun l=>cj hi 0 fun h=>cj mx h fun m=>l≤h∧h≤0∧m=h∧K (.bE z)
  | .val (.string s)=>(τ t).str=true∧mx=none ∧
   cj lo 0 fun l=>cj hi s.size fun h=>l≤h∧h≤s.size∧K (.val (.string (s.extract l h)))
  | _=>False:=rfl
theorem X4{av:AV}{t f:Prop}:lT av t f=az av fun av=>match av with
  | .val (.bool b)=>(b=true→t)∧(b=false→f)
  | _=>False:=rfl
theorem Ua{g:Nat}{want:Bool}{K:Option Bool→Prop}:az (guardOf gs st (some (g,want))) K=az (oC gs g) fun t=>match t with
  | some t=>az (look st.env t) fun av=>match av with
   | .val (.bool b)=>az b fun b=>K (some (b==want))
   | .cT _=>K (some false)
   | _=>K none
  | none=>K none:=by
 unfold az
 simp only[guardOf]
 cases oC gs g with
 | none=>rfl
 | some t =>
  simp only
  cases look st.env t with
  | val v=>cases v<;>rfl
  | _=>rfl
end
end
end Go.Vc

namespace Go.Vc
set_option linter.all false
open T (cM blk)
def ni (τ:bg) (st:St):List ResultVar→(AV→Prop)→Prop
 | [],K=>K .nil
 | .tmp t::r,K=>az (look st.env t) fun av=>ni τ st r fun s=>K (.cons av s)
 | .cell a t::r,K=>mI τ (.load t (.tmp a)) st fun av=>ni τ st r fun s=>K (.cons av s)
def kH:AV→AV
 | .cons a .nil=>a
 | s=>.cT s
def an (τ:bg) (rs:List ResultVar) (R:AV→List D→List (Nat×Path)→Prop):Exit→St→Prop
 | .normal,st=>ni τ st rs fun s=>R (kH s) st.X st.κ
 | .ret,st=>ni τ st rs fun s=>R (kH s) st.X st.κ
 | _,_=>False
@[congr] theorem Ze{τ:bg}{st st':St}{l:List ResultVar}{K:AV→Prop}(h:tick st=st'):ni τ st l K=ni τ st' l K:=by rw[bl] at h;rw[h]
@[congr] theorem abt{τ:bg}{rs:List ResultVar}{R:AV→List D→List (Nat×Path)→Prop}{e e':Exit}{st st':St}(h:tick e=e')(h1:st=st'):an τ rs R e st=an τ rs R e' st':=by rw[bl] at h;rw[h,h1]
def fG:Nat→AV→Env
 | i,.cons a t=>(i,a)::fG (i+1) t
 | _,_=>[]
def uJ (tmps:Array Value):ResultVar→Sem Value
 | .tmp t=>pure (tmps.getD t undef)
 | .cell x t=>do loadVar t (←asAddr (tmps.getD x undef))
theorem rq(fn:Func)(tmps:Array Value):results fn tmps=(do let vs ←fn.results.mapM (uJ tmps);pure (if h:vs.size=1 then vs[0] else .tuple vs)):=by
 rfl
def AV.gT:AV→Bool
 | .nil=>true
 | .cons _ t=>t.gT
 | _=>false
theorem lV{c:Cx}{τ:bg}(hτ:bg.Ok c.P τ){st:St}{a:Act}{w:World}{I:Nat→Prop}{F:List G}(hi:Inv c st.X st.κ w I F)(he:bw st.env a w I F)(hp:dS st.pl w I F) :
  ∀(rs:List ResultVar) (K:AV→Prop),ni τ st rs K→∃s vs,K s∧Rl w.heap I F s true vs∧s.gT=true∧(rs.mapM (uJ a.tmps)).run c.P w=.ok vs w
 | [],K,h=>⟨.nil,[],h,rfl,rfl,rfl⟩
 | .tmp t::r,K,h=>by
  obtain⟨s,vs,h1,h2,h3,h4⟩:=lV hτ hi he hp r _ h
  refine⟨_,_::vs,h1,⟨_,_,rfl,he t,h2⟩,h3,?_⟩
  simp only[List.mapM_cons,uJ,Sem.run_bind,Sem.run_pure,Result.andThen_ok,h4]
 | .cell x t::r,K,h=>by
  obtain⟨av,v,h5,h6,h7⟩:=sJ hτ hi he hp (o:=⟨none,.load t (.tmp x),0, "",#[],none⟩) h
  obtain⟨s,vs,h1,h2,h3,h4⟩:=lV hτ hi he hp r _ h5
  refine⟨_,v::vs,h1,⟨_,_,rfl,h6,h2⟩,h3,?_⟩
  have h8:=h7 w fun _ _=>rfl
  have h9:(uJ a.tmps (.cell x t)).run c.P w=.ok v w:=by
   have e0:uJ a.tmps (.cell x t)=(asAddr (a.tmps.getD x undef)).bind fun ad=>loadVar t ad:=rfl
   rw[e0]
   simp only[execOp,Instr.loadAt,Act.eval] at h8
   generalize a.tmps.getD x undef=v0 at h8
   cases v0 with
   | pointer o =>
    cases o with
    | none=>simp[Instr.sureAddr] at h8
    | some ad =>
     simp only[Instr.sureAddr,Sem.run_bind,Sem.run_pure,Result.andThen_ok] at h8
     show (loadVar t ad).run c.P w=.ok v w
     cases hl:(loadVar t ad).run c.P w with
     | ok v' w'=>rw[hl] at h8;simp only[Result.andThen_ok,Result.ok.injEq,Next.value.injEq] at h8;rw[h8.1,h8.2]
     | halt x w'=>rw[hl] at h8;simp at h8
   | _=>simp[Instr.sureAddr] at h8
  simp only[List.mapM_cons,Sem.run_bind,h9,Sem.run_pure,Result.andThen_ok,h4]
theorem Rl.sO{h:Array Obj}{I:Nat→Prop}{F:List G}:∀{s:AV} {vs:List Value},s.gT=true→Rl h I F s true vs→s.len=vs.length
 | .nil,_,_,H=>by cases H;rfl
 | .cons _ t,_,hs,⟨v,vs',e,_,h2⟩=>by subst e;simp only[AV.len,List.length_cons];rw[Rl.sO (s:=t) hs h2]
theorem sP{h:Array Obj}{I:Nat→Prop}{F:List G}:∀{s:AV} {vs:List Value} (i t:Nat),s.gT=true→Rl h I F s true vs→∀v,(i≤t→vs[t-i]? = some v)→(t<i→False)→Rl h I F (look (fG i s) t) true [v]
 | .nil,_,i,t,_,_,v,_,_=>⟨v,rfl⟩
 | .cons a r,_,i,t,hs,⟨u,vs',e,h1,h2⟩,v,hv,hlt=>by
  subst e
  simp only[fG,look]
  split
  ·rename_i hit
   subst hit
   have:=hv (Nat.le_refl _)
   simp at this
   subst this;exact h1
  ·rename_i hne
   refine sP (s:=r) (i+1) t hs h2 v (fun hle=>?_) (fun h=>?_)
   ·have:=hv (by omega)
    rw[show t-i=(t-(i+1))+1 by omega] at this
    simpa using this
   ·rcases Nat.lt_or_ge t i with h'|h'
    ·exact hlt h'
    ·omega
theorem qh:∀{s:AV} (i t:Nat),s.gT=true→i+s.len≤t→look (fG i s) t=.bad
 | .nil,_,_,_,_=>rfl
 | .cons a r,i,t,hs,hl=>by
  simp only[fG,look,AV.len] at *
  rw[if_neg (by omega)]
  exact qh (i+1) t hs (by omega)
def book:Obj→Prop
 | .deferred _=>True
 | .loop _=>True
 | _=>False
def live (h:Array Obj) (b:Nat):Prop:=∀o,h[b]? = some o→¬book o
theorem vu{h:Array Obj}{b:Nat}{o:Obj}(e:h[b]? = some o)(hn:¬book o):live h b:=fun o' e'=>by rw[e] at e';cases e';exact hn
theorem Holds.live{h:Array Obj}{I:Nat→Prop}{g:G}(H:T.Holds h I g):T.Holds h (fun b=>I b∧live h b) g:=by
 induction g with
 | val v=>exact H
 | aH a=>exact H
 | nil=>trivial
 | cons x t Xt bO=>exact⟨Xt H.1,bO H.2⟩
 | agg s ih=>exact ih H
 | sl own a z s ih =>
  obtain⟨h1,h2,h3,h4⟩:=H
  refine⟨ih h1,h2,h3,?_⟩
  split at h4
  ·exact h4
  ·exact h4
  ·obtain⟨g1,g2,g3,g4,g5,row,e,fr,g6,g7⟩:=h4
   exact⟨g1,g2,g3,g4,fun hf=>⟨g5 hf,vu g6 (by simp[book])⟩,row,e,fr,g6,g7⟩
  ·exact h4.elim
 | box own a g ih =>
  obtain⟨h1,h3,h4⟩:=H
  refine⟨ih h1,h3,?_⟩
  split at h4
  ·obtain⟨g1,g2,g3,row,e,fr,g6,g7⟩:=h4
   exact⟨g1,fun hf=>⟨g2 hf,vu g6 (by simp[book])⟩,g3,row,e,fr,g6,g7⟩
  ·exact h4.elim
 | map own a s ih =>
  obtain⟨h1,h3,h4⟩:=H
  refine⟨ih h1,h3,?_⟩
  split at h4
  ·obtain⟨g1,es,c,g6,g7⟩:=h4
   exact⟨fun hf=>⟨g1 hf,vu g6 (by simp[book])⟩,es,c,g6,g7⟩
  ·exact h4.elim
theorem Rl.live{h:Array Obj}{I:Nat→Prop}{F:List G}{av:AV}{m:Bool}{vs:List Value}(H:Rl h I F av m vs):Rl h (fun b=>I b∧live h b) F av m vs:=by
 induction av generalizing m vs with
 | bad=>cases m<;>exact H
 | val v=>cases m<;>exact H
 | bE z=>cases m<;>exact H
 | cut z=>cases m<;>exact H
 | ptr k q=>cases m<;>exact H
 | sub k q lo n ex=>cases m<;>exact H
 | mp k q=>cases m<;>exact H
 | cA z s ex=>cases m<;>(obtain⟨v,h1,s',h2,h3,h4⟩:=H;exact⟨v,h1,s',h2,Holds.live h3,h4⟩)
 | fP d =>
  cases m<;>(obtain⟨v,h1,g,x,h2,h3,h4,h5,h6,h7,h8⟩:=H;obtain⟨row,e,fr,k1,k2⟩:=id h8;exact⟨v,h1,g,x,h2,Holds.live h3,h4,h5,h6,⟨h7,vu k1 (by simp[book])⟩,h8⟩)
 | nil=>cases m<;>exact H
 | cons a t kz bO =>
  cases m
  ·obtain⟨v1,v2,h1,h2,h3⟩:=H
   exact⟨v1,v2,h1,kz h2,bO h3⟩
  ·obtain⟨v1,v2,h1,h2,h3⟩:=H
   exact⟨v1,v2,h1,kz h2,bO h3⟩
 | agg s ih =>
  cases m
  ·exact ih (m:=false) H
  ·obtain⟨cs,h1,h2⟩:=H
   exact⟨cs,h1,ih h2⟩
 | cT s ih =>
  cases m
  ·exact H
  ·obtain⟨cs,h1,h2⟩:=H
   exact⟨cs,h1,ih h2⟩
 | fn f s ih =>
  cases m<;>(obtain⟨cs,h1,h2⟩:=H;exact⟨cs,h1,ih h2⟩)
structure abu (Ds:List Nat) (w w':World):Prop where
 heap:∀b,b<w.heap.size→b∉Ds→w'.heap[b]? = w.heap[b]?
 size:w.heap.size≤w'.heap.size
 os:w'.os=w.os
 tape:w'.tape=w.tape
 output:w'.output=w.output
theorem sZ{F:List G}{h:Array Obj}{I:Nat→Prop}(H:∀g∈F,T.Holds h I g){D:Nat}{o:Obj}(hD:h[D]? = some o)(ho:book o):D∉own F:=fun hm=>by
 simp only[own,List.mem_flatMap] at hm
 obtain⟨g,hg,hm⟩:=hm
 exact Tp hD (fun _ _ _ e=>by subst e;exact ho) (fun _ _ e=>by subst e;exact ho) g (H g hg) hm
theorem Rel.shut{c:Cx}{st:St}{a:Act}{w w':World}{I:Nat→Prop}{F:List G}(hil:∀b,c.I0 b→b<c.w0.heap.size)(hi:Inv c st.X st.κ w I F)(he:bw st.env a w I F)(hp:dS st.pl w I F){Ds:List Nat}
  (hD:∀D∈Ds,c.w0.heap.size≤D∧∃o,w.heap[D]? = some o∧book o) (s:abu Ds w w'):∃I',Inv c st.X st.κ w' I' F∧bw st.env a w' I' F∧dS st.pl w' I' F:=by
 have hown:∀b∈own F,b∉Ds:=fun b hb hm=>by obtain⟨_,o,h1,h2⟩:=hD b hm;exact sZ hi.holds h1 h2 hb
 have pL:∀b,b<c.w0.heap.size→b∉Ds:=fun b hb hm=>by have:=(hD b hm).1;omega
 have Ub:∀b,live w.heap b→b∉Ds:=fun b hb hm=>by obtain⟨_,o,h1,h2⟩:=hD b hm;exact hb o h1 h2
 have hI:∀b,I b∧live w.heap b→w'.heap[b]? = w.heap[b]?:=fun b hb=>s.heap b (hi.ic b hb.1) (Ub b hb.2)
 have hmono:∀b,I b∧live w.heap b→I b∧(b<c.w0.heap.size∨live w.heap b):=fun b hb=>⟨hb.1,.inr hb.2⟩
 have hrl:∀{av m vs},Rl w.heap I F av m vs→Rl w'.heap (fun b=>I b∧(b<c.w0.heap.size∨live w.heap b)) F av m vs:=fun {av m vs} H =>
  (Rl.live H).agree hI hmono (AV.fR (κ:=[]) (AV.ja _) (fun _ _ _ _=>rfl) (fun _ _ _ _=>rfl) H)
 refine⟨fun b=>I b∧(b<c.w0.heap.size∨live w.heap b),?_,fun t=>hrl (he t),fun k q av hm=>?_⟩
 ·exact⟨hi.erase,fun g hg=>(Holds.live (hi.holds g hg)).agree (fun b hb=>s.heap b (hi.lt b (List.mem_flatMap.2 ⟨g,hg,hb⟩)) (hown b (List.mem_flatMap.2 ⟨g,hg,hb⟩))) hI hmono,hi.nodup,fun b hb h=>hi.apart b hb h.1,
   fun b hb=>Nat.lt_of_lt_of_le (hi.lt b hb) s.size,fun b hb=>Nat.lt_of_lt_of_le (hi.ic b hb.1) s.size,s.os.trans hi.os,s.tape.trans hi.tape,s.output.trans hi.output,Nat.le_trans hi.size s.size,
   fun b h1 h2=>(s.heap b (Nat.lt_of_lt_of_le h1 hi.size) (pL b h1)).trans (hi.frame b h1 h2),hi.fresh,fun b hb=>⟨hi.ek b hb,.inl (hil b hb)⟩,fun b hb=>hi.gY b hb.1,hi.base⟩
 ·obtain⟨g,v,h1,h2,h3⟩:=hp k q av hm
  exact⟨g,v,h1,h2,hrl h3⟩
theorem kQ{n:Nat}{P:Program}{fn:Func}{tmps:Array Value}{R:Ending→World→Prop}:∀(Ds:List Nat) (w:World),Ds.Nodup→(∀D∈Ds,w.heap[D]? = some (.deferred (some []))) →
  (∀w',abu Ds w w'→∃v,(results fn tmps).run P w'=.ok v w'∧R (.returned v) w')→LeavesInM Fence.wide n P fn tmps R (Ds.map mark) .returning w
 | [],w,_,_,h=>h w ⟨fun _ _ _=>rfl,Nat.le_refl _,rfl,rfl,rfl⟩
 | D::Ds,w,hn,hD,h=>by
  obtain⟨FK,hn2⟩:=List.nodup_cons.1 hn
  have Vh:=hD D List.mem_cons_self
  have hlt:D<w.heap.size:=(Array.getElem?_eq_some_iff.1 Vh).1
  refine⟨by simp,.inl ⟨D,_,rfl,run_takeDeferred Vh,kQ Ds _ hn2 (fun E hE=>?_) fun w' s=>h w' ?_⟩⟩
  ·have hne:D≠E:=fun e=>FK (e▸hE)
   show (w.heap.setIfInBounds D _)[E]? = _
   rw[Array.getElem?_setIfInBounds_ne hne]
   exact hD E (List.mem_cons_of_mem _ hE)
  ·have hsz:(w.heap.setIfInBounds D (.deferred none)).size=w.heap.size:=by simp
   have hs1:w.heap.size≤w'.heap.size:=by have:=s.size;rw[←hsz];exact this
   refine⟨fun b hl hb=>?_,hs1,s.os,s.tape,s.output⟩
   have hne:D≠b:=fun e=>hb (by simp[e])
   rw[s.heap b (by show b<(w.heap.setIfInBounds D (.deferred none)).size;rw[hsz];exact hl) fun hm=>hb (List.mem_cons_of_mem _ hm)]
   show (w.heap.setIfInBounds D _)[b]? = _
   rw[Array.getElem?_setIfInBounds_ne hne]
theorem ai.abv{P:Program}{τ:bg}(hτ:bg.Ok P τ){f:FuncId}{fn:Func}{body:Code}{Y:List D}{args:AV}{R:AV→List D→List (Nat×Path)→Prop}
  (hf:P.funcs[f]? = some fn) (hb:fn.body=some body) (hname:(fn.name == "runtime.NumGoroutine")=false) {nt:Nat} (hnt:fn.ntmps=nt) {rs:List ResultVar} (wq:fn.results.toList=rs)
  (hl:args.gT=true) (hlen:args.len≤nt)
  (h:∀w0 I0 F0,F0.length=Y.length→(∀b,I0 b→b<w0.heap.size)→VC ⟨P,nt,w0,I0,F0⟩ body (an τ rs R) ⟨fG 0 args,Y,[],[]⟩):ai P f Y args R:=by
 refine⟨⟨fn,hf,by rw[hb];rfl,hname⟩,fun w I F0 vs hY hH hnd hap hlt hil hx=>?_⟩
 subst hnt
 subst wq
 have hvl:=Rl.sO hl hx
 refine callsIn_wide.1 (callsIn_of_wp_marks (F:=Fence.wide) (n:=0) hf hb trivial (wpIn_wide.2 ?_))
 have tX:Rel ⟨P,fn.ntmps,w,I,F0⟩ ⟨fG 0 args,Y,[],[]⟩ { tmps:=vs.toArray++Array.replicate (fn.ntmps-vs.toArray.size) undef,defers:=[] } w:=by
  refine⟨oI.none _ _,by simp;omega,I,F0,⟨hY,hH,hnd,hap,hlt,hil,rfl,rfl,rfl,Nat.le_refl _,fun _ _ _=>rfl,fun b hb _=>hb,fun _ h=>h,fun _ h=>.inl h,
   fun k g0 hg=>⟨g0,hg,rfl,fun _ _=>rfl,fun _ _=>rfl,fun _ _ h _=>h⟩⟩,fun t=>?_,fun k q av hm=>by cases hm⟩
  rcases Nat.lt_or_ge t vs.length with fW|fW
  ·refine sP 0 t hl hx _ (fun _=>?_) (fun h=>by omega)
   rw[List.getElem?_eq_getElem (by omega)]
   simp only[Array.getD_eq_getD_getElem?]
   rw[Array.getElem?_append_left (by simpa using fW)]
   simp[fW]
  ·rw[qh 0 t hl (by omega)];exact⟨_,rfl⟩
 have hend:∀(st:St) a w',(ni τ st fn.results.toList fun s=>R (kH s) st.X st.κ)→Rel ⟨P,fn.ntmps,w,I,F0⟩ st a w' →
   LeavesInM Fence.wide 0 P fn a.tmps (fun e w'=>∃v' av X κ I' F',e=.returned v'∧R av X κ∧Inv ⟨P,0,w,I,F0⟩ X κ w' I' F'∧Rl w'.heap I' F' av true [v']) a.defers .returning w':=by
  intro st a w0' h1 ⟨⟨Ds,hds,hdn,RW⟩,hs,I0',F',pQ,he0,P8⟩
  rw[hds]
  refine kQ Ds w0' hdn (fun D hD=>(RW D hD).2) fun w' DZ=>?_
  obtain⟨I',hi,he,hp⟩:=Rel.shut (c:=⟨P,fn.ntmps,w,I,F0⟩) hil pQ he0 P8 (fun D hD=>⟨(RW D hD).1,_,(RW D hD).2,trivial⟩) DZ
  obtain⟨s,ws,g1,g2,g3,g4⟩:=lV (c:=⟨P,fn.ntmps,w,I,F0⟩) hτ hi he hp _ _ h1
  have hi':Inv ⟨P,0,w,I,F0⟩ st.X st.κ w' I' F':=⟨hi.erase,hi.holds,hi.nodup,hi.apart,hi.lt,hi.ic,hi.os,hi.tape,hi.output,hi.size,hi.frame,hi.fresh,hi.ek,hi.gY,hi.base⟩
  have hm:(fn.results.mapM (uJ a.tmps)).run P w'=.ok ws.toArray w':=by
   rw[←Array.toArray_toList (xs:=fn.results),Array.mapM_eq_mapM_toList]
   simp only[Sem.run_map]
   rw[g4];rfl
  have hres:∃v,(results fn a.tmps).run P w'=.ok v w'∧Rl w'.heap I' F' (kH s) true [v]:=by
   rw[rq]
   simp only[Sem.run_bind,hm,Result.andThen_ok,Sem.run_pure]
   refine⟨_,rfl,?_⟩
   cases s with
   | nil=>cases g2;exact⟨[],rfl,rfl⟩
   | cons x r =>
    obtain⟨v,vs',e,k1,k2⟩:=id g2
    subst e
    cases r with
    | nil=>cases k2;simpa[kH] using k1
    | cons y r =>
     obtain⟨v2,vs2,e2,_,_⟩:=id k2
     subst e2
     simp only[kH]
     exact⟨v::v2::vs2,by simp,g2⟩
    | _=>cases g3
   | _=>cases g3
  obtain⟨v,g5,g6⟩:=hres
  exact⟨v,g5,v,_,_,_,I',F',rfl,g1,hi',g6⟩
 refine wp_mono (h w I F0 (by rw[←hY];simp) hil _ w tX) fun e a w' ⟨st,h1,h2⟩=>?_
 cases e with
 | normal=>exact hend st a w' h1 h2
 | ret=>exact hend st a w' h1 h2
 | _=>exact h1.elim
theorem ai.Kr{P:Program}{τ:bg}(hτ:bg.Ok P τ){f:FuncId}{fn:Func}{body:Code}{Y:List D}{args:AV}{R:AV→List D→List (Nat×Path)→Prop}
  (hf:P.funcs[f]? = some fn) (hb:fn.body=some body) (hname:(fn.name == "runtime.NumGoroutine")=false) {nt:Nat} (hnt:fn.ntmps=nt) {rs:List ResultVar} (wq:fn.results.toList=rs)
  (hl:args.gT=true) (hlen:args.len≤nt)
  (h:∀w0 I0 F0,F0.length=Y.length→VC ⟨P,nt,w0,I0,F0⟩ body (an τ rs R) ⟨fG 0 args,Y,[],[]⟩):ai P f Y args R :=
 ai.abv hτ hf hb hname hnt wq hl hlen fun w0 I0 F0 hF _=>h w0 I0 F0 hF
end Go.Vc

namespace Go.Vc
set_option linter.all false
def sq {α:Type}:List (T α)→T α
 | []=>.nil
 | a::l=>.cons a (sq l)
section
variable {α:Type}
theorem abw:sq ([]:List (T α))=.nil:=rfl
theorem HC(l:List (T α)):(sq l).len=l.length:=by induction l with
 | nil=>rfl
 | cons a l ih=>simp[sq,T.len,ih]
theorem abx(l:List (T α))(i:Nat):(sq l).nth i=l.getD i .nil:=by
 induction l generalizing i with
 | nil=>simp[sq,T.nth]
 | cons a l ih=>cases i<;>simp[sq,T.nth,ih]
theorem ep{l:List (T α)}{i:Nat}(h:i<l.length):(sq l).nth i=l[i]:=by rw[abx];simp[h]
theorem iP(l:List (T α))(i:Nat)(x:T α):(sq l).br i x=sq (l.set i x):=by
 induction l generalizing i with
 | nil=>simp[sq,T.br]
 | cons a l ih=>cases i<;>simp[sq,T.br,ih]
theorem gQ(l m:List (T α)):(sq l).app (sq m)=sq (l++m):=by
 induction l with
 | nil=>cases m<;>simp[sq,T.app]
 | cons a l ih=>simp[sq,T.app,ih]
theorem X5(l:List (T α))(x:T α):(sq l).app (.cons x .nil)=sq (l++[x]):=gQ l [x]
theorem X6(l:List (T α))(k:Nat):(sq l).drop k=sq (l.drop k):=by
 induction k generalizing l with
 | zero=>simp[T.drop]
 | succ k ih=>cases l<;>simp[sq,T.drop,ih]
theorem J9(l:List (T α))(k:Nat):(sq l).take k=sq (l.take k):=by
 induction k generalizing l with
 | zero=>cases l<;>simp[sq,T.take]
 | succ k ih=>cases l<;>simp[sq,T.take,ih]
theorem tr(l:List (T α))(lo n:Nat):(sq l).mid lo n=sq ((l.drop lo).take n):=by rw[T.mid,X6,J9]
theorem aV(l:List (T α))(n:Nat)(h:l.length≤n):(sq l).mid 0 n=sq l:=by rw[tr,List.drop_zero,List.take_of_length_le h]
theorem jL{l:List (T α)}(h:∀x∈l,x.free=true):(sq l).free=true:=by induction l with
 | nil=>rfl
 | cons a l ih=>simp only[sq,T.free,Bool.and_eq_true];exact⟨h a List.mem_cons_self,ih fun x hx=>h x (List.mem_cons_of_mem _ hx)⟩
end
def Zp (n:Int):D:=.val (.int .i64 n)
def agI (s:ByteArray):D:=.val (.string s)
def aj (l:List Int):D:=sq (l.map Zp)
def ko (l:List ByteArray):D:=sq (l.map agI)
theorem HD(l:List Int):(aj l).free=true:=jL fun x hx=>by obtain⟨n,_,rfl⟩:=List.mem_map.1 hx;rfl
theorem HE(l:List ByteArray):(ko l).free=true:=jL fun x hx=>by obtain⟨n,_,rfl⟩:=List.mem_map.1 hx;rfl
theorem Nc(l:List Int):(aj l).len=l.length:=by simp[aj,HC]
theorem Nd(l:List ByteArray):(ko l).len=l.length:=by simp[ko,HC]
theorem bP{l:List Int}{i:Nat}(h:i<l.length):(aj l).nth i=.val (.int .i64 l[i]):=by rw[aj,ep (by simpa using h)];simp[Zp]
@[simp] theorem ju(l:List Int):(aj l).mid 0 l.length=aj l:=aV _ _ (by simp)
@[simp] theorem acm(l:List ByteArray):(ko l).mid 0 l.length=ko l:=aV _ _ (by simp)
@[simp] theorem aeC{α:Type}(s:T α)(lo:Nat):s.mid lo 0=.nil:=by
 unfold T.mid
 cases s.drop lo<;>rfl
attribute [simp] HD HE Nc Nd
@[simp] theorem kS(l m:List Int):(aj l).app (aj m)=aj (l++m):=by simp[aj,gQ]
@[simp] theorem acn(l m:List ByteArray):(ko l).app (ko m)=ko (l++m):=by simp[ko,gQ]
@[simp] theorem fK(l:List Int)(n:Int):(aj l).app (.cons (.val (.int .i64 n)) .nil)=aj (l++[n]):=by
 simp only[aj,List.map_append,←gQ];rfl
@[simp] theorem aby(l:List ByteArray)(n:ByteArray):(ko l).app (.cons (.val (.string n)) .nil)=ko (l++[n]):=by
 simp only[ko,List.map_append,←gQ];rfl
theorem tq:aj []=.nil:=rfl
@[simp] theorem abz(l:List Int)(i:Nat)(n:Int):(aj l).br i (.val (.int .i64 n))=aj (l.set i n):=by
 simp only[aj,iP,List.map_set];rfl
@[simp] theorem abA(l:List ByteArray)(i:Nat)(n:ByteArray):(ko l).br i (.val (.string n))=ko (l.set i n):=by
 simp only[ko,iP,List.map_set];rfl
end Go.Vc

namespace Go.Vc
set_option linter.all false
@[simp] theorem afp(n m:Nat):Nat.ble n m=decide (n≤m):=by rw[Bool.eq_iff_iff];simp
@[simp] theorem X7(n m:Nat):Nat.blt n m=decide (n<m):=by rw[Bool.eq_iff_iff];simp[Nat.blt,Nat.succ_le_iff]
@[simp] theorem A9(n m:Nat):Nat.beq n m=decide (n=m):=by rw[Bool.eq_iff_iff];simp
@[simp] theorem afq(n m b:Nat):fits n m b=((n+m)*b≤140737488355328∧n+m≤2 ^ 63-1):=rfl
theorem Nf{nb k lo n:Nat}{q:Path}{ex:Bool}{X:List D}:AV.lay nb (.sub k q lo n ex) X=match lB X k q n ex with
  | some z=>⟨.sl true () z .nil,X,[],[]⟩
  | none=>match q,X[k]? with
   | [],some (.sl true () z s)=>bif Nat.ble nb k then ⟨.sl true () z (s.mid lo n),X.set k (.aH ()),[(k,[])],[]⟩ else ⟨.aH (),X,[],[([],.sub k [] lo n ex)]⟩
   | q,_=>⟨.aH (),X,[],[([],.sub k q lo n ex)]⟩:=by rw[AV.lay.eq_def];rfl
theorem Ng{nb k:Nat}{q:Path}{X:List D}:AV.lay nb (.ptr k q) X=match q,X[k]? with
  | [.d],some (.box true () g)=>bif Nat.ble nb k then ⟨.box true () g,X.set k (.aH ()),[(k,[])],[]⟩ else ⟨.aH (),X,[],[([],.ptr k [.d])]⟩
  | q,_=>⟨.aH (),X,[],[([],.ptr k q)]⟩:=by rw[AV.lay.eq_def];rfl
theorem Uc{nb k:Nat}{q:Path}{X:List D}:AV.lay nb (.mp k q) X=match q,X[k]? with
  | [],some (.map true () s)=>bif Nat.ble nb k then ⟨.map true () s,X.set k (.aH ()),[(k,[])],[]⟩ else ⟨.aH (),X,[],[([],.mp k [])]⟩
  | q,_=>⟨.aH (),X,[],[([],.mp k q)]⟩:=by rw[AV.lay.eq_def];rfl
attribute [simp] Nf Ng Uc
def Ud:=@abk
def Nh:=@XS
def HF:=@TV
def Ue:=@put_eq
def Ni:=@XT
def HG:=@TW
def HH:=@TX
def Uf:=@abl
def Ug:=@abm
def HI:=@TY
def HJ:=@TZ
def Em:=@M7
def Uh:=@abn
def Nj:=@XU
def Ui:=@abo
def Nk:=@XV
def Eo:=@M8
def Nl:=@XW
def yp:=@El
def Nn:=@XX
def Ba:=@Hy
def xD:=@A7
def xE:=@A8
def Bb:=@Hz
def HK:=@T3
def HL:=@T4
def No:=@XY
def Ep:=@M9
def Er:=@Na
def Np:=@XZ
def Nq:=@X1
def Bc:=@HA
def Uj:=@abp
def Uk:=@abq
def HM:=@T5
def Ul:=@abr
def Nr:=@X2
def HN:=@T6
def Um:=@marked.eq_1
def Es:=@Env.qK.eq_1
def X8:=@AV.qK.eq_def
def Ns:=@X3
def HO:=@T8
def Et:=@Nb
def Bd:=@HB
def HP:=@T9
def HQ:=@T'
def Nt:=@X4
def HR:=@Ua
def HS:=@TK
def HT:=@TL
def Eu:=@MW
def HU:=@TM
def HV:=@TN
def HW:=@TO
def Nu:=@XN
def HX:=@TP
def Ev:=@MX
def HY:=@TQ
def Ew:=@MY
def HZ:=@TS
def H6:=@TT
def Nv:=@XO
def Ex:=@bind_some
def Ey:=@bind_none
def Ez:=@MZ
def Be:=@Hv
def EA:=@M0
def Nw:=@XP
def Nx:=@XQ
def Ny:=@XR
def EC:=@M1
def Bf:=@Hw
def ED:=@M3
def Bg:=@Hx
def EE:=@M4
def H7:=@TU
def EF:=@M5
def EG:=@M6
def Nz:=@oC.eq_1
def NA:=@oC.eq_2
def H8:=@St.put.eq_1
def H9:=@St.put.eq_2
def NB:=@St.ev.eq_1
def NC:=@St.ev.eq_2
def ND:=@St.ev.eq_3
def NF:=@St.ev.eq_4
def Ia:=@St.jO.eq_1
def Ib:=@St.jO.eq_2
def Ic:=@St.Y0.eq_1
def Ie:=@St.Y0.eq_2
def Un:=@look.eq_1
def Uo:=@look.eq_2
def EH:=@St.tree.eq_1
def EI:=@Tk.tree.eq_1
def NG:=@T.at_.eq_1
def NH:=@T.at_.eq_2
def NI:=@T.at_.eq_3
def NJ:=@T.at_.eq_4
def NK:=@T.at_.eq_5
def NL:=@T.at_.eq_6
def NM:=@T.nth.eq_1
def NN:=@T.nth.eq_2
def NO:=@T.nth.eq_3
def NP:=@T.len.eq_1
def NQ:=@T.len.eq_2
def Ig:=@T.cm.eq_1
def Ih:=@T.cm.eq_2
def EJ:=@T.width.eq_1
def EK:=@T.width.eq_2
def EL:=@T.width.eq_3
def EN:=@T.width.eq_4
def EO:=@T.width.eq_5
def EP:=@T.width.eq_6
def ER:=@T.width.eq_7
def ES:=@T.width.eq_8
def NS:=@T.set.eq_1
def NT:=@T.set.eq_2
def NU:=@T.set.eq_3
def NV:=@T.set.eq_4
def NW:=@T.set.eq_5
def NX:=@T.set.eq_6
def Ii:=@T.br.eq_1
def Ij:=@T.br.eq_2
def Ik:=@T.br.eq_3
def NY:=@T.dU.eq_1
def NZ:=@T.dU.eq_2
def N0:=@T.dU.eq_3
def N1:=@T.dU.eq_4
def N2:=@T.dU.eq_5
def N3:=@T.dU.eq_6
def yq:=@T.noEntry.eq_1
def yu:=@T.noEntry.eq_2
def yw:=@T.noEntry.eq_3
def yx:=@T.noEntry.eq_4
def yz:=@T.noEntry.eq_5
def yA:=@T.noEntry.eq_6
def N4:=@T.esz.eq_1
def N5:=@T.esz.eq_2
def Il:=@T.free.eq_1
def Im:=@T.free.eq_2
def Io:=@T.free.eq_3
def Ip:=@T.free.eq_4
def Iq:=@T.free.eq_5
def Ir:=@T.free.eq_6
def N6:=@T.nQ.eq_1
def N7:=@T.nQ.eq_2
def N8:=@T.nQ.eq_3
def N9:=@T.app.eq_1
def Oa:=@T.app.eq_2
def Up:=@u9.eq_1
def Uq:=@u9.eq_2
def Ur:=@u9.eq_3
def Us:=@u9.eq_4
def Ob:=@ei.eq_1
def Oc:=@ei.eq_2
def Od:=@ei.eq_3
def Oe:=@ei.eq_4
def Of:=@ei.eq_5
def Og:=@ei.eq_6
def Oh:=@ei.eq_7
def Is:=@AV.pe.eq_1
def It:=@AV.pe.eq_2
def Iu:=@AV.pe.eq_3
def Iv:=@AV.pe.eq_4
def Iw:=@AV.pe.eq_5
def Iy:=@AV.pe.eq_6
def Iz:=@AV.pe.eq_7
def IA:=@AV.pe.eq_8
def IB:=@AV.pe.eq_9
def ET:=@AV.pe.eq_10
def IC:=@AV.Cn.eq_1
def ID:=@AV.Cn.eq_2
def IE:=@AV.Cn.eq_3
def IF:=@AV.Cn.eq_4
def IG:=@AV.Cn.eq_5
def II:=@AV.Cn.eq_6
def IJ:=@AV.Cn.eq_7
def IK:=@AV.Cn.eq_8
def IL:=@nX.eq_1
def IM:=@nX.eq_2
def Bh:=@AV.dx.eq_1
def Bi:=@AV.dx.eq_2
def Bj:=@AV.dx.eq_3
def Bk:=@AV.dx.eq_4
def Bl:=@AV.dx.eq_5
def Bn:=@AV.dx.eq_6
def Bo:=@AV.dx.eq_7
def Bp:=@AV.dx.eq_8
def Bq:=@AV.dx.eq_9
def EU:=@mD.eq_1
def Oi:=@uL.eq_1
def Oj:=@uL.eq_2
def EV:=@mD.eq_2
def Ol:=@jt.eq_1
def Om:=@jt.eq_2
def On:=@jt.eq_3
def Oo:=@jt.eq_4
def Oq:=@jt.eq_5
def Ot:=@jt.eq_6
def Ou:=@jt.eq_7
def Ov:=@jt.eq_8
def Ow:=@jt.eq_9
def IN:=@jt.eq_10
def IP:=@jt.eq_11
def IQ:=@jt.eq_12
def Ox:=@js.eq_1
def Oy:=@js.eq_2
def Oz:=@js.eq_3
def OA:=@js.eq_4
def OB:=@js.eq_5
def OC:=@js.eq_6
def OD:=@js.eq_7
def OE:=@js.eq_8
def OF:=@js.eq_9
def IS:=@js.eq_10
def IT:=@js.eq_11
def IU:=@js.eq_12
def IV:=@js.eq_13
def IW:=@js.eq_14
def OG:=@oA.eq_1
def OH:=@oA.eq_2
def OI:=@oA.eq_3
def OJ:=@oA.eq_4
def OL:=@oA.eq_5
def OM:=@oA.eq_6
def ON:=@oA.eq_7
def OO:=@oA.eq_8
def Ut:=@jC.eq_1
def Uu:=@jC.eq_2
def Uv:=@jC.eq_3
def OQ:=@eE.eq_1
def OR:=@eN.eq_1
def OS:=@eN.eq_2
def Uw:=@an.eq_1
def Ux:=@an.eq_2
def Uy:=@an.eq_3
def OT:=@ni.eq_1
def OU:=@ni.eq_2
def OV:=@ni.eq_3
def OW:=@kH.eq_1
def OX:=@kH.eq_2
def OY:=@fG.eq_1
def OZ:=@fG.eq_2
def Br:=@lB.eq_1
def Bt:=@lB.eq_2
def Uz:=@aeo.eq_1
def IX:=@AV.lay.eq_1
def IY:=@AV.lay.eq_2
def IZ:=@AV.lay.eq_3
def I2:=@AV.lay.eq_4
def EW:=@AV.lay.eq_11
def EX:=@AV.lay.eq_12
def EY:=@AV.lay.eq_13
def EZ:=@AV.lay.eq_14
def E0:=@AV.lay.eq_15
def E1:=@AV.lay.eq_16
def Bu:=@AV.cI.eq_1
def Bw:=@AV.cI.eq_2
def Bx:=@AV.cI.eq_3
def O0:=@cI.eq_1
def O1:=@cI.eq_2
def O2:=@cI.eq_3
def yB:=@AV.eZ.eq_1
def yC:=@AV.eZ.eq_2
def yD:=@AV.eZ.eq_3
def yE:=@AV.eZ.eq_4
def yF:=@AV.eZ.eq_5
def By:=@St.mT.eq_1
def E2:=@St.push.eq_1
def X9:=@toI.eq_1
def Ya:=@toI.eq_2
def yG:=@St.stored.eq_1
def I3:=@iw.eq_1
def I4:=@iw.eq_2
def Bz:=@Env.kill.eq_1
def E3:=@AV.kill.eq_1
def I6:=@AV.rip.eq_1
def I7:=@AV.rip.eq_2
def I8:=@AV.rip.eq_3
def I9:=@AV.rip.eq_4
def Ja:=@AV.rip.eq_5
def Jb:=@AV.rip.eq_6
def Jc:=@AV.rip.eq_7
def E4:=@AV.dZ.eq_1
def E5:=@AV.dZ.eq_2
def E6:=@AV.dZ.eq_3
def E7:=@AV.dZ.eq_4
def E8:=@AV.dZ.eq_5
def E9:=@AV.dZ.eq_6
def Fa:=@AV.dZ.eq_7
def Fb:=@AV.dZ.eq_8
def UA:=@dead.eq_1
def UB:=@ah.eq_1
def UC:=@ah.eq_2
def UD:=@ah.eq_3
def UE:=@ah.eq_4
def UF:=@ah.eq_5
def Jd:=@dK.eq_1
def Je:=@AV.rz.eq_1
def Jf:=@AV.rz.eq_2
def Jg:=@AV.rz.eq_3
def Jh:=@AV.rz.eq_4
def Ji:=@AV.rz.eq_5
def Jj:=@AV.rz.eq_6
def BA:=@AV.width.eq_1
def BB:=@AV.width.eq_2
def BC:=@AV.width.eq_3
def BD:=@AV.width.eq_4
def Jk:=@AV.nth.eq_1
def Jl:=@AV.nth.eq_2
def Jm:=@AV.nth.eq_3
def Jn:=@AV.len.eq_1
def Jo:=@AV.len.eq_2
def Fc:=@AV.cm.eq_1
def Fe:=@AV.cm.eq_2
def yH:=@AV.ofList.eq_1
def yI:=@AV.ofList.eq_2
def Ff:=@AV.br.eq_1
def Fg:=@AV.br.eq_2
def Fh:=@AV.br.eq_3
def Jp:=@AV.app.eq_1
def Jq:=@AV.app.eq_2
def Jr:=@AV.src.eq_1
def Js:=@AV.src.eq_2
def Jt:=@AV.src.eq_3
def Ju:=@AV.src.eq_4
def BE:=@AV.tight.eq_1
def BF:=@AV.tight.eq_2
def BG:=@AV.tight.eq_3
def BH:=@AV.tight.eq_4
def Jv:=@jF.eq_1
def Jw:=@jF.eq_2
def Jy:=@jF.eq_3
def Fi:=@cj.eq_1
def Fj:=@cj.eq_2
def Fk:=@cj.eq_3
def Jz:=@mJ.eq_1
def JA:=@mJ.eq_2
def UG:=@MO.eq_1
def UH:=@MO.eq_2
def rG:=@Go.Value.oneCell'.eq_1
def rH:=@Go.Value.oneCell'.eq_2
def rI:=@Go.Value.oneCell'.eq_3
attribute [simp] Ud Nh HF Ue Ni HG HH Uf Ug HI HJ Em Uh
attribute [simp] Nj Ui Nk Eo Nl yp Nn Ba xD xE HK Bb
attribute [simp] HL No Ep Er Np Nq Bc Uj Uk HM Ul Nr HN Um Es X8
attribute [simp] Ns HO Et Bd HP HQ Nt HR HS HT Eu HU HV
attribute [simp] HW Nu HX Ev HY Ew HZ H6 Nv Ex Ey Ez
attribute [simp] Be EA Nw Nx Ny EC Bf ED Bg EE H7
attribute [simp] EF EG Nz NA H8 H9 NB NC ND NF Ia Ib
attribute [simp] Ic Ie Un Uo EH EI NG NH NI NJ NK NL NM
attribute [simp] NN NO NP NQ Ig Ih EJ EK EL EN EO EP
attribute [simp] ER ES NS NT NU NV NW NX Ii Ij Ik NY
attribute [simp] NZ N0 N1 N2 N3 yq yu yw yx yz yA
attribute [simp] N4 N5 Il Im Io Ip Iq Ir N6 N7 N8 N9
attribute [simp] Oa Up Uq Ur Us Ob Oc Od Oe Of Og Oh Is
attribute [simp] It Iu Iv Iw Iy Iz IA IB ET IC ID IE
attribute [simp] IF IG II IJ IK IL IM Bh Bi Bj Bk
attribute [simp] Bl Bn Bo Bp Bq EU EV Oi Oj Ol Om On Oo
attribute [simp] Oq Ot Ou Ov Ow IN IP IQ Ox Oy Oz OA OB OC OD
attribute [simp] OE OF IS IT IU IV IW OG OH OI OJ OL OM ON
attribute [simp] OO Ut Uu Uv OQ OR OS Uw Ux Uy OT OU OV OW
attribute [simp] OX OY OZ Br Bt Uz IX IY IZ I2
attribute [simp] EW EX EY EZ E0 E1 Bu
attribute [simp] Bw Bx O0 O1 O2 yB yC yD yE yF
attribute [simp] By E2 X9 Ya yG I3 I4 Bz E3 I6 I7 I8 I9 Ja Jb Jc E4 E5
attribute [simp] E6 E7 E8 E9 Fa Fb UA UB UC UD UE UF
attribute [simp] Jd Je Jf Jg Jh Ji Jj BA BB BC BD
attribute [simp] Jk Jl Jm Jn Jo Fc Fe yH yI Ff Fg
attribute [simp] Fh Jp Jq Jr Js Jt Ju BE BF BG BH
attribute [simp] Jv Jw Jy Fi Fj Fk Jz JA UG UH HC iP gQ
attribute [simp] X5 abw rG rH rI
end Go.Vc

namespace Go.Vc
set_option linter.all false
open T (cM blk)
def posOf:List Nat→Nat→Option Nat
 | [],_=>none
 | x::l,k=>if x=k then some 0 else (posOf l k).map (· + 1)
def AV.BI (cw:List Nat):AV→AV
 | .ptr k q=>match posOf cw k with
  | some j=>.ptr j q
  | none=>.bad
 | .sub k q lo n ex=>match posOf cw k with
  | some j=>.sub j q lo n ex
  | none=>.bad
 | .mp k q=>match posOf cw k with
  | some j=>.mp j q
  | none=>.bad
 | .cons a t=>.cons (a.BI cw) (t.BI cw)
 | .agg s=>.agg (s.BI cw)
 | .cT s=>.cT (s.BI cw)
 | .fn f s=>.fn f (s.BI cw)
 | a=>a
def AV.whole (cw:List Nat):AV→Bool
 | .ptr k _=>(posOf cw k).isSome
 | .sub k _ _ _ _=>(posOf cw k).isSome
 | .mp k _=>(posOf cw k).isSome
 | .cons a t=>a.whole cw&&t.whole cw
 | .agg s=>s.whole cw
 | .cT s=>s.whole cw
 | .fn _ s=>s.whole cw
 | _=>true
def AV.O3 (cw:List Nat) (a:AV):AV:=bif a.whole cw then a.BI cw else .bad
def St.pick (st:St) (ts:List Tmp) (cw:List Nat):St where
 env:=ts.map fun t=>(t,(look st.env t).O3 cw)
 X:=cw.map fun k=>st.X.getD k .nil
 κ:=st.κ
 pl:=(st.pl.filter fun e=>(posOf cw e.1).isSome&&e.2.2.whole cw).map fun e=>((posOf cw e.1).getD 0,e.2.1,e.2.2.BI cw)
theorem qv{cw:List Nat}{k j:Nat}(h:posOf cw k=some j):cw[j]? = some k:=by
 induction cw generalizing j with
 | nil=>cases h
 | cons x l ih =>
  simp only[posOf] at h
  split at h
  ·rename_i e;cases h;simp[e]
  ·cases hp:posOf l k with
   | none=>rw[hp] at h;cases h
   | some i=>rw[hp] at h;cases h;simpa using ih hp
theorem UI{h:Array Obj}{I:Nat→Prop}{F F':List G}{cw:List Nat}(hF:∀(j k:Nat),cw[j]? = some k→F'[j]? = F[k]?)(av:AV) :
  ∀{m:Bool} {vs:List Value},av.whole cw=true→Rl h I F av m vs→Rl h I F' (av.BI cw) m vs:=by
 induction av with
 | ptr k q =>
  intro m vs hw H
  obtain⟨j,hj⟩:=Option.isSome_iff_exists.1 hw
  have:=hF j k (qv hj)
  simp only[AV.BI,hj]
  cases m<;>(obtain⟨b,o,h1,h2⟩:=H;exact⟨b,o,by unfold dF at *;rw[this];exact h1,h2⟩)
 | sub k q lo n ex =>
  intro m vs hw H
  obtain⟨j,hj⟩:=Option.isSome_iff_exists.1 hw
  have:=hF j k (qv hj)
  simp only[AV.BI,hj]
  cases m<;>(obtain⟨own,a,z,len,v,h1,h2⟩:=H;exact⟨own,a,z,len,v,by unfold bM at *;rw[this];exact h1,h2⟩)
 | mp k q =>
  intro m vs hw H
  obtain⟨j,hj⟩:=Option.isSome_iff_exists.1 hw
  have:=hF j k (qv hj)
  simp only[AV.BI,hj]
  cases m<;>(obtain⟨own,a,z,len,h1,h2⟩:=H;exact⟨own,a,z,len,by unfold bM at *;rw[this];exact h1,h2⟩)
 | cons a t kz bO =>
  intro m vs hw H
  simp only[AV.whole,Bool.and_eq_true] at hw
  cases m<;>(obtain⟨v1,v2,h1,h2,h3⟩:=H;exact⟨v1,v2,h1,kz hw.1 h2,bO hw.2 h3⟩)
 | agg s ih =>
  intro m vs hw H
  cases m
  ·exact ih (m:=false) hw H
  ·obtain⟨cs,h1,h2⟩:=H;exact⟨cs,h1,ih hw h2⟩
 | cT s ih =>
  intro m vs hw H
  cases m
  ·exact H.elim
  ·obtain⟨cs,h1,h2⟩:=H;exact⟨cs,h1,ih hw h2⟩
 | fn f s ih=>intro m vs hw H;cases m<;>(obtain⟨cs,h1,h2⟩:=H;exact⟨cs,h1,ih hw h2⟩)
 | _=>intro m vs hw H;cases m<;>exact H
def iF (nb n:Nat) (cw:List Nat):Bool:=cw.all (fun k=>Nat.blt k n)&&decide cw.Nodup&&(List.range nb).all fun i=>cw[i]? == some i
theorem wT{h:Array Obj}{I:Nat→Prop}{F:List G}{v:Value}:Rl h I F .bad true [v]:=⟨v,rfl⟩
theorem Rel.pick{c:Cx}{st:St}{a:Act}{w:World}(h:Rel c st a w)(ts:List Tmp){cw:List Nat}(hs:iF c.F0.length st.X.length cw=true):Rel c (st.pick ts cw) a w:=by
 obtain⟨h1,h2,I,F,hi,he,hp⟩:=h
 simp only[iF,Bool.and_eq_true,List.all_eq_true,decide_eq_true_eq,List.mem_range,beq_iff_eq] at hs
 obtain⟨⟨s1,s2⟩,s3⟩:=hs
 have yd:F.length=st.X.length:=by rw[←hi.erase];simp
 have s1:∀k∈cw,k<F.length:=fun k hk=>by rw[yd];exact Nat.le_of_ble_eq_true (s1 k hk)
 have hF:∀(j k:Nat),cw[j]? = some k→(cw.map fun k=>F.getD k .nil)[j]? = F[k]?:=fun j k hj=>by
  have hk:=s1 k (List.mem_of_getElem? hj)
  rw[List.getElem?_map,hj]
  rw[List.getElem?_eq_getElem hk]
  simp[hk]
 have aeD:∀g∈cw.map (fun k=>F.getD k .nil),g∈F:=fun g hg=>by
  obtain⟨k,hk,rfl⟩:=List.mem_map.1 hg
  have:=s1 k hk
  simp[this]
 have mK:∀b,(own (cw.map fun k=>F.getD k .nil)).count b≤(own F).count b:=by
  intro b
  have key:∀(cw:List Nat) (F:List G),cw.Nodup→(∀k∈cw,k<F.length)→(own (cw.map fun k=>F.getD k .nil)).count b≤(own F).count b:=by
   intro cw
   induction cw with
   | nil=>intro F _ _;simp[own]
   | cons k l ih =>
    intro F hn hk
    simp only[List.nodup_cons] at hn
    have hkF:=hk k List.mem_cons_self
    have hg:F[k]? = some (F[k]'hkF):=List.getElem?_eq_getElem hkF
    have h1:=cQ hg (.nil) b
    have h2:=ih (F.set k .nil) hn.2 (fun j hj=>by simpa using hk j (List.mem_cons_of_mem _ hj))
    have h3:(l.map fun j=>(F.set k .nil).getD j .nil)=l.map fun j=>F.getD j .nil:=List.map_congr_left fun j hj=>by
     have hne:k≠j:=fun e=>hn.1 (e▸hj)
     simp only[List.getD_eq_getElem?_getD]
     rw[List.getElem?_set_ne hne]
    rw[h3] at h2
    simp only[T.owned,List.count_nil] at h1
    have h4:(own ((k::l).map fun j=>F.getD j .nil)).count b=(F[k]'hkF).owned.count b+(own (l.map fun j=>F.getD j .nil)).count b:=by
     simp[own,List.count_append,hkF]
    omega
  exact key cw F s2 s1
 have hmem:∀b∈own (cw.map fun k=>F.getD k .nil),b∈own F:=fun b hb=>by have:=mK b;rw[aq] at *;omega
 refine⟨h1,h2,I,cw.map fun k=>F.getD k .nil,?_,?_,?_⟩
 ·refine⟨?_,fun g hg=>hi.holds g (aeD g hg),bu fun b=>Nat.le_trans (mK b) (aS hi.nodup b),fun b hb=>hi.apart b (hmem b hb),fun b hb=>hi.lt b (hmem b hb),hi.ic,hi.os,hi.tape,hi.output,hi.size,
   hi.frame,fun b hb=>hi.fresh b (hmem b hb),hi.ek,hi.gY,fun k g0 nE=>?_⟩
  ·simp only[St.pick,←hi.erase,List.map_map]
   refine List.map_congr_left fun k _=>?_
   simp only[Function.comp_apply,List.getD_eq_getElem?_getD,List.getElem?_map]
   cases F[k]? <;> rfl
  ·obtain⟨g,g1,g2⟩:=hi.base k g0 nE
   have hk:k<c.F0.length:=(List.getElem?_eq_some_iff.1 nE).1
   exact⟨g,by rw[hF k k (s3 k hk)];exact g1,g2⟩
 ·intro t
  have key:∀ts:List Tmp,(look (ts.map fun t=>(t,(look st.env t).O3 cw)) t=.bad)∨look (ts.map fun t=>(t,(look st.env t).O3 cw)) t=(look st.env t).O3 cw:=by
   intro ts
   induction ts with
   | nil=>exact .inl rfl
   | cons x ts ih =>
    simp only[List.map_cons,look]
    split
    ·rename_i e;subst e;exact .inr rfl
    ·exact ih
  rcases key ts with h'|h'
  ·show Rl _ _ _ (look (ts.map _) t) true _
   rw[h'];exact wT
  ·show Rl _ _ _ (look (ts.map _) t) true _
   rw[h']
   unfold AV.O3
   cases hw:(look st.env t).whole cw with
   | true=>exact UI hF _ hw (he t)
   | false=>exact wT
 ·intro k q av hm
  simp only[St.pick,List.mem_map,List.mem_filter,Bool.and_eq_true] at hm
  obtain⟨⟨k',q',oK⟩,⟨hm,hs1,Dk⟩,e⟩:=hm
  simp only[Prod.mk.injEq] at e hs1 Dk
  obtain⟨rfl,rfl,rfl⟩:=e
  obtain⟨j,hj⟩:=Option.isSome_iff_exists.1 hs1
  obtain⟨g,v,g1,g2,g3⟩:=hp k' q' oK hm
  refine⟨g,v,?_,g2,UI hF _ Dk g3⟩
  rw[hj]
  simp only[Option.getD_some]
  rw[hF j k' (qv hj)];exact g1
theorem VC.pick{c:Cx}{code:Code}{K:Exit→St→Prop}{st:St}(ts:List Tmp)(cw:List Nat)(hs:iF c.F0.length st.X.length cw=true)(h:VC c code K (st.pick ts cw)):VC c code K st :=
 VC.ghost (fun _ _ hr=>hr.pick ts hs) h
def aO (nb:Nat) (J:Nat→St→Prop) (n:Nat) (st:St):Prop:=∃ts cw m,m<n∧iF nb st.X.length cw=true∧J m (st.pick ts cw)
@[congr] theorem Zf{nb n:Nat}{J:Nat→St→Prop}{st st':St}(h:tick st=st'):aO nb J n st=aO nb J n st':=by rw[bl] at h;rw[h]
theorem aO.of{nb n:Nat}{J:Nat→St→Prop}{st:St}(ts:List Tmp)(cw:List Nat)(m:Nat)(hm:m<n)(hs:iF nb st.X.length cw=true)(h:J m (st.pick ts cw)):aO nb J n st:=⟨ts,cw,m,hm,hs,h⟩
theorem VC.rounds{c:Cx}{x:Code}{K:Exit→St→Prop}{st:St}(J:Nat→St→Prop)(h0:∃n,J n st)
  (hr:∀n st,J n st→VC c x (eN (aO c.F0.length J n) K) st):VC c (.loop x) K st:=by
 refine VC.loop (fun n st'=>J n st'∨∃ts cw,iF c.F0.length st'.X.length cw=true∧J n (st'.pick ts cw)) ?_ fun n st' hJ=>?_
 ·obtain⟨n,hn⟩:=h0;exact⟨n,.inl hn⟩
 ·have fin:∀i7,J n i7→VC c x (eN (fun st'=>∃m,m<n∧(J m st'∨∃ts cw,iF c.F0.length st'.X.length cw=true∧J m (st'.pick ts cw))) K) i7:=fun i7 hJ =>
   (hr n i7 hJ).mono fun e st hk=>by
    cases e with
    | normal=>obtain⟨ts,cw,m,h1,h2,h3⟩:=hk;exact⟨m,h1,.inr ⟨ts,cw,h2,h3⟩⟩
    | _=>exact hk
  rcases hJ with hJ|⟨ts,cw,hs,hJ⟩
  ·exact fin st' hJ
  ·exact VC.pick ts cw hs (fin _ hJ)
end Go.Vc

namespace Go.Vc
set_option linter.all false
open T (cM blk)
def om:AV→Bool
 | .bE _=>true
 | .sub _ _ _ 0 true=>true
 | _=>false
theorem Zg{nb z:Nat}{X:List D}{k:Nat}{q:Path}{lo n:Nat}{ex:Bool}{r:Sc}(h:(AV.sub k q lo n ex).src nb z X=some r):r.m=n:=by
 simp only[AV.src] at h
 split at h
 ·split at h
  ·rename_i s' _ _
   cases hfr:(s'.mid lo n).free with
   | true=>rw[hfr] at h;simp only[cond_true,Option.some.injEq] at h;subst h;rfl
   | false =>
    rw[hfr] at h;simp only[cond_false] at h
    cases q with
    | cons _ _=>cases h
    | nil =>
     simp only at h
     cases hb:Nat.ble nb k with
     | false=>rw[hb] at h;cases h
     | true=>rw[hb] at h;simp only[cond_true,Option.some.injEq] at h;subst h;rfl
  ·cases h
 ·cases h
theorem Yb{c:Cx}{τ:bg}(hτ:bg.Ok c.P τ){st:St}{w:World}{I:Nat→Prop}{F:List G}(hi:Inv c st.X st.κ w I F){t ty:TypeId}{e z cL:Nat}{zv:Value}(ht:(τ t).sl=some (e,z,cL,zv)){b x:AV}{v vx:Value}
  (hv:Rl w.heap I F b true [v]) (hx:Rl w.heap I F x true [vx]) {K:AV→St→Prop} (hK:pM c.F0.length z cL st b x K) (hc:om b=true) {v':Value} {w':World}
  (hrun:(Builtin.append_ #[t,t] ty #[v,vx]).run c.P w=.ok v' w'):Ext w w':=by
 have key:∀r,x.src c.F0.length z st.X=some r→fits 0 r.m cL→(∃A,v=.slice A 0 0∧∀y,A=some y→y.spot=none)→Ext w w':=by
  rintro r hr ⟨Cg,qA⟩ ⟨A,rfl,hA⟩
  rw[←hi.erase] at hr
  obtain⟨F1,x',o2,A2,c2,s1,s2,s3,s4,s5,s6,s7⟩:=rC hi.holds hx hr
  subst s3
  obtain⟨u1,inf,u2,u3,u4,u5,u6⟩:=(hτ t).sl _ _ _ _ ht
  rw[←u4] at s4
  have H1:T.Holds w.heap I (.sl true (.slice A 0 0) inf.size .nil):=by
   cases A with
   | none=>exact⟨trivial,trivial,(fun h=>by cases h),rfl,rfl,rfl⟩
   | some y=>exact⟨trivial,trivial,(fun h=>by cases h),rfl,fun _=>hA y rfl,rfl⟩
  obtain⟨v2,w2,r1,_,_,_,_,r6,_⟩:=kj (P:=c.P) w (ty:=ty) u1 u2 u3 H1 s4 (by rw[u6,u4]) hi.ic (fun h1 h2=>by omega)
   (fun b hb=>by
    simp only[T.owned,List.nil_append] at hb
    have h6:=s6 b
    exact hi.lt b (by rw[aq] at *;omega)) (by rw[u5];exact Cg) qA
  rw[r1] at hrun
  cases hrun
  exact fun b hb=>r6 b hb fun _ _ h1 h2=>by omega
 have hsub:∀k q lo,b=.sub k q lo 0 true→∃A,v=.slice A 0 0∧∀y,A=some y→y.spot=none:=by
  rintro k q lo rfl
  obtain⟨own,a,z0,len,v1,_,h1,A,cc,h2,_,_,_,h3,h4⟩:=hv
  cases h1
  obtain rfl:cc=0:=h3 rfl
  refine⟨A,h2,fun y hy=>?_⟩
  subst hy
  split at h4
  ·cases h4.1
  ·obtain⟨y',hy',h5,_⟩:=h4;cases hy';exact h5
  ·exact h4.elim
 cases b with
 | bE z0 =>
  simp only[pM,ct] at hK
  have hv0:v=.slice none 0 0:=by cases hv;rfl
  cases hr:x.src c.F0.length z st.X with
  | none=>rw[hr] at hK;exact hK.elim
  | some r =>
   rw[hr] at hK
   exact key r hr hK.2.2.1 ⟨none,hv0,fun y h=>by cases h⟩
 | sub k q lo n ex =>
  obtain⟨rfl,rfl⟩:n=0∧ex=true:=by
   cases ex<;>cases n<;>simp[om] at hc ⊢
  have hs:=hsub k q lo rfl
  have fresh:ct c.F0.length z cL st (.sub k q lo 0 true) x K→Ext w w':=fun h=>by
   unfold ct at h
   split at h
   ·rename_i rb r hrb hr
    have hm:rb.m=0:=Zg hrb
    obtain⟨_,_,h3,_⟩:=h
    rw[hm] at h3
    exact key r hr h3 hs
   ·exact h.elim
  have same:gq c.F0.length z cL st (.sub k q lo 0 true) x K→Ext w w':=fun h=>by
   unfold gq at h
   split at h
   ·rename_i rb r hrb hr
    have hm:rb.m=0:=Zg hrb
    obtain⟨_,h2,h3,_⟩:=h
    rw[hm] at h3
    exact key r hr (by rw[h2];exact h3) hs
   ·exact h.elim
  have root:∀lo,fT c.F0.length z cL st k lo 0 x K→Ext w w':=fun lo h=>by
   unfold fT at h
   split at h
   ·exact h.elim
   ·rename_i r hr
    split at h
    ·exact key r hr h.2.2.1 hs
    ·exact h.elim
  unfold pM at hK
  split at hK
  ·rename_i heq;cases heq
  ·rename_i heq
   cases heq
   cases hb:Nat.ble c.F0.length k with
   | true=>rw[hb] at hK;exact root _ hK
   | false =>
    rw[hb] at hK
    simp only[cond_false] at hK
    split at hK
    ·rename_i r _
     cases zU:Nat.blt 0 r.m with
     | true=>rw[zU] at hK;exact fresh hK
     | false=>rw[zU] at hK;exact same hK
    ·exact hK.elim
  ·rename_i heq
   cases heq
   split at hK
   ·rename_i r _
    cases zU:Nat.blt 0 r.m with
    | true=>rw[zU] at hK;exact fresh hK
    | false=>rw[zU] at hK;exact same hK
   ·exact hK.elim
  ·exact fresh hK
 | _=>simp[om] at hc
def qw (τ:bg) (st:St) (o:Oper):Prop :=
 match o.op with
 | .call cc=>match cc.callee,cc.args.toList,cc.argTypes.toList with
  | .builtin .append,[x,_],[t,_]=>om (st.jO τ t x)=true
  | .value _,_,_=>bG τ st (.call cc)=true
  | _,_,_=>False
 | _=>False
theorem zq{c:Cx}{τ:bg}(hτ:bg.Ok c.P τ){st:St}{a:Act}{w:World}(h:Rel c st a w){o:Oper}{K:AV→St→Prop}(hv:cF c τ o st K)(hf:qw τ st o)(hns:bG τ st o.op=false):∃v w',(execOp a.eval o).run c.P w=.ok (.value v) w'∧Ext w w':=by
 obtain⟨dst,op,ty,pos,after,guard⟩:=o
 obtain⟨hd,hs,I,F,hi,he,hp⟩:=h
 unfold qw at hf
 simp only at hf
 split at hf
 case h_2=>exact hf.elim
 rename_i cc
 split at hf
 case h_2=>rw[hf] at hns;cases hns
 case h_3=>exact hf.elim
 rename_i x y t u dc hargs P3
 unfold cF at hv
 simp only[dc] at hv
 split at hv
 ·unfold lW at hv
  simp only[dc,hargs,P3] at hv
  obtain⟨av,st',v,w',_,hrun,_,hex⟩:=Tj hτ ⟨hd,hs,I,F,hi,he,hp⟩ (ty:=ty) hv
  have h1:cc.args.map a.eval=#[a.eval x,a.eval y]:=by
   apply Array.ext'
   simp[hargs]
  have h2:cc.argTypes=#[t,u]:=by
   apply Array.ext'
   simp[P3]
  exact⟨v,w',by simp[execOp,resolve,dc,h1,h2,invoke,builtin,hrun],hex⟩
 unfold fI at hv
 simp only[dc,hargs,P3] at hv
 split at hv
 case h_2=>exact hv.elim
 rename_i e z cL zv ht
 obtain⟨rfl,hv⟩:=hv
 have h1:cc.args.map a.eval=#[a.eval x,a.eval y]:=by
  apply Array.ext'
  simp[hargs]
 have h2:cc.argTypes=#[t,t]:=by
  apply Array.ext'
  simp[P3]
 obtain⟨av,st',v',w2,g1,g2,g3⟩:=Eh hτ hd hs hi he hp (ty:=ty) ht (he.jO (τ:=τ) t x) (he.jO (τ:=τ) t y) hv
 have h3:(execOp a.eval ⟨dst,.call cc,ty,pos,after,guard⟩).run c.P w=.ok (.value v') w2:=by
  simp[execOp,resolve,dc,h1,h2,invoke,builtin,g2]
 exact⟨_,_,h3,Yb hτ hi ht (he.jO (τ:=τ) t x) (he.jO (τ:=τ) t y) hv hf g2⟩
section
variable {P:Program} {ops:Array Oper} {Q:Exit→Act→World→Prop} {md:Region.Mode}
def nT (P:Program) (md:Region.Mode) (ops:Array Oper) (E:Nat→Bool) (Q:Exit→Act→World→Prop):Nat→Array Bool→Act→World→Prop
 | 0,listed,a,w=>Region.ready md ops listed=[]∧Q .normal a w
 | fuel+1,listed,a,w =>
  (Region.ready md ops listed=[]→Q .normal a w) ∧
  ∀i∈Region.ready md ops listed,wpOp P ops Q i (fun a' w'=>(E i=true→Ext w w')∧nT P md ops E Q fuel (listed.setIfInBounds i true) a' w') a w
variable {E:Nat→Bool}
theorem nU:∀(fuel:Nat) (listed:Array Bool) (a:Act) (w:World),nT P md ops E Q fuel listed a w→wpAny P md ops Q fuel listed a w
 | 0,_,_,_,h=>h
 | fuel+1,_,_,_,h=>⟨h.1,fun i hi=>wpOp_mono (fun a' w' h'=>nU fuel _ a' w' h'.2) (h.2 i hi)⟩
def dI (P:Program) (ops:Array Oper) (S:World→Prop) (o:Oper) (v:Value) (a:Act):Prop :=
 (Region.wanted o (yielded ops a.tmps)=true∧∀w,S w→(execOp a.eval o).run P w=.ok (.value v) w) ∨
 (Region.wanted o (yielded ops a.tmps)=false∧v=undef)
theorem dI.wpOp{S:World→Prop}{i:Nat}{o:Oper}{v:Value}{a:Act}(hi:ops[i]? = some o)(hy:dI P ops S o v a)
  {K:Act→World→Prop} {w:World} (hS:S w) (h:K (a.put o.dst v) w):wpOp P ops Q i K a w:=by
 unfold Go.wpOp
 simp only[hi]
 rcases hy with ⟨hw,hv⟩|⟨hw,rfl⟩
 ·simp only[hw,if_true,Oper.wp,hv w hS,Oper.upon];exact .inl h
 ·simp only[hw,Bool.false_eq_true,if_false];exact h
theorem dI.of_same{S:World→Prop}{o:Oper}{v:Value}{a a':Act}(hy:dI P ops S o v a)(he:execOp a'.eval o=execOp a.eval o)
  (hw:Region.wanted o (yielded ops a'.tmps)=Region.wanted o (yielded ops a.tmps)):dI P ops S o v a':=by
 unfold dI at *
 rw[he,hw]
 exact hy
theorem zl{S:World→Prop}{j:Nat}{oi oj:Oper}{v:Value}(hj:ops[j]? = some oj)(hap:oi.apart ops oj=true)
  (hsi:∀cs b,oi.op≠.select cs b) (hsj:∀cs b,oj.op≠.select cs b)
  (hQ:∀c a w,Q (.panic c) (a.put oi.dst v) w→Q (.panic c) a w) {K:Act→World→Prop} {a:Act} {w:World}
  (hy:dI P ops S oi v a) (h:wpOp P ops Q j K (a.put oi.dst v) w) :
  wpOp P ops Q j (fun a' w'=>dI P ops S oi v a'∧K (a'.put oi.dst v) w') a w:=by
 obtain⟨h1,h2,h3⟩:=Oper.apart_spec hap
 have keep:∀(a:Act),dI P ops S oi v a→∀u,dI P ops S oi v (a.put oj.dst u):=fun a hy u =>
  hy.of_same (execOp_put oi hsi a oj.dst u h3) (wanted_put oi a oj.dst u h3)
 have aeE:∀d,dI P ops S oi v { a with defers:=d::a.defers }:=fun d=>hy.of_same rfl rfl
 unfold wpOp at *
 simp only[hj] at *
 rw[wanted_put oj a oi.dst v h1] at h
 split
 ·rename_i hw
  simp only[hw,if_true] at h
  rcases h with h|⟨hasks,aeF⟩
  case inr=>exact .inr ⟨by unfold Oper.asks at *;rw[execOp_put oj hsj a oi.dst v h1] at hasks;exact hasks,aeF⟩
  refine .inl ?_
  unfold Oper.wp at *
  rw[execOp_put oj hsj a oi.dst v h1] at h
  generalize (execOp a.eval oj).run P w=r at *
  cases r with
  | ok n w' =>
   cases n<;>simp only[Oper.upon] at h ⊢
   case value u=>exact⟨keep a hy u,by rw[←Act.put_comm a v u h2];exact h⟩
   case skip=>exact⟨keep a hy _,by rw[←Act.put_comm a v undef h2];exact h⟩
   case defer d =>
    refine⟨keep _ (aeE d) _,?_⟩
    rw[←Act.put_comm _ v undef h2,←Act.put_defers]
    exact h
   case enter f args =>
    refine Calls.mono h fun e w'' he=>?_
    cases e with
    | returned u=>exact⟨keep a hy u,by rw[←Act.put_comm a v u h2];exact he⟩
    | panicked c=>exact hQ _ _ _ he
    | outgrown=>exact he
   case row row args=>exact Rows.mono h fun u w'' he=>⟨keep a hy u,by rw[←Act.put_comm a v u h2];exact he⟩
  | halt x w' =>
   cases x<;>simp only[Oper.upon] at h ⊢
   case panic u=>exact hQ _ _ _ h
 ·rename_i hw
  simp only[hw] at h
  exact⟨keep a hy _,by rw[←Act.put_comm a v undef h2];exact h⟩
theorem sN{S:World→Prop}{i:Nat}{oi:Oper}{v:Value}(hi:ops[i]? = some oi)(hsel:∀(j:Nat) (o:Oper) cs b,ops[j]? = some o→o.op≠.select cs b)
  (hQ:∀c a w,Q (.panic c) (a.put oi.dst v) w→Q (.panic c) a w) (hSE:(∀w,S w)∨∀w w',S w→Ext w w'→S w') (D:Nat→Bool)
  (hD:∀j oj,ops[j]? = some oj→D j=true→∃e∈oj.after,Region.binds md e=true∧(e.on=i∨D e.on=true)) :
  ∀(fuel:Nat) (listed:Array Bool) (a:Act) (w:World),(∀j,D j=true→listed.getD j false=false) →
   (∀j oj,ops[j]? = some oj→j≠i→listed.getD j true=false→D j=false→oi.apart ops oj=true∧((∀w,S w)∨E j=true)) →
   i∈Region.ready md ops listed→dI P ops S oi v a→S w →
   nT P md ops E Q fuel (listed.setIfInBounds i true) (a.put oi.dst v) w→nT P md ops E Q (fuel+1) listed a w:=by
 intro fuel
 induction fuel with
 | zero =>
  intro listed a w _ _ hr hy hS H
  refine⟨fun h=>(by rw[h] at hr;cases hr),fun j hj=>?_⟩
  by_cases hji:j=i
  ·subst hji;exact hy.wpOp hi hS ⟨fun _ _ _=>rfl,H⟩
  ·have:=ready_mono hj hji
   rw[H.1] at this
   cases this
 | succ fuel ih =>
  intro listed a w hDl hfree hr hy hS H
  refine⟨fun h=>(by rw[h] at hr;cases hr),fun j hj=>?_⟩
  by_cases hji:j=i
  ·subst hji;exact hy.wpOp hi hS ⟨fun _ _ _=>rfl,H⟩
  ·have h1:=H.2 j (ready_mono hj hji)
   obtain⟨RB,oj,GR,hall⟩:=mem_ready.1 hj
   have RC:=(mem_ready.1 hr).1
   have hjD:D j=false:=by
    cases hd:D j with
    | false=>rfl
    | true =>
     exfalso
     obtain⟨e,he,hb,h2⟩:=hD j oj GR hd
     have h3:=hall e he hb
     rcases h2 with h2|h2
     ·rw[h2] at h3
      rcases Nat.lt_or_ge i listed.size with h'|h'
      ·simp[h'] at RC h3;rw[RC] at h3;cases h3
      ·simp[Array.getElem?_eq_none h'] at h3
     ·rw[hDl _ h2] at h3;cases h3
   obtain⟨hap,GS⟩:=hfree j oj GR hji RB hjD
   have h2:=zl GR hap (fun cs b=>hsel i oi cs b hi) (fun cs b=>hsel j oj cs b GR) hQ hy h1
   have aak:∀k,D k=true→(listed.setIfInBounds j true).getD k false=false:=fun k hk=>by
    by_cases hjk:j=k
    ·subst hjk;rw[hjD] at hk;cases hk
    ·rw[getD_set_ne false hjk];exact hDl k hk
   have wH:∀k ok,ops[k]? = some ok→k≠i→(listed.setIfInBounds j true).getD k true=false→D k=false→oi.apart ops ok=true∧((∀w,S w)∨E k=true):=fun k ok hk hki hun hno=>by
    refine hfree k ok hk hki ?_ hno
    by_cases hjk:j=k
    ·subst hjk;exact RB
    ·rw[getD_set_ne true hjk] at hun;exact hun
   refine wpOp_mono (fun a' w' h3=>⟨h3.2.1,ih (listed.setIfInBounds j true) a' w' aak wH (ready_mono hr (Ne.symm hji)) h3.1 ?_ ?_⟩) h2
   ·rcases hSE with h|h
    ·exact h _
    ·rcases GS with h'|h'
     ·exact h' _
     ·exact h w w' hS (h3.2.1 h')
   ·rw[Array.setIfInBounds_comm _ _ hji]
    exact h3.2.2
theorem uI{listed:Array Bool}{a:Act}{w:World}(hr:Region.ready md ops listed=[])(h:Q .normal a w) :
  ∀fuel,nT P md ops E Q fuel listed a w
 | 0=>⟨hr,h⟩
 | _+1=>⟨fun _=>h,by rw[hr];simp⟩
end
inductive bY where
 | done
 | take (i:Nat) (p:bY)
 | fork (l:bY)
 | alt (i:Nat) (p r:bY)
 | nil
def cW:Op→Bool
 | .move _ | .assign _ | .pick _ _ _ | .nilCheck _ | .binOp _ _ _ _ _ | .unOp _ _ _ | .convert _ _ _ | .fieldAddr _ _ _ | .indexAddr _ _ _ | .index _ _ _ | .extract _ _ | .build _ _ | .slice _ _ _ _ _ | .makeFunc _ _ _=>true
 | .call c=>match c.callee with
  | .builtin .len=>true
  | .builtin .cap=>true
  | .builtin .min=>true
  | .builtin .max=>true
  | _=>false
 | _=>false
def eX:Op→Bool
 | .load _ _=>true
 | _=>false
def bY.alts:bY→List Nat
 | .alt i _ r=>i::r.alts
 | _=>[]
def Zh (ops:Array Oper) (E:Nat→Bool) (listed:Array Bool) (i:Nat) (D:Nat→Bool) (o:Oper):Prop :=
 (∀j oj,ops[j]? = some oj→D j=true→∃e∈oj.after,Region.binds .any e=true∧(e.on=i∨D e.on=true)) ∧
 (∀j,D j=true→listed.getD j false=false) ∧
 (∀j oj,ops[j]? = some oj→j≠i→listed.getD j true=false→D j=false→o.apart ops oj=true∧(cW o.op=true∨E j=true))
def bY.gD:bY→Bool
 | .alt _ _ _=>false
 | .nil=>false
 | _=>true
def bY.depth:bY→Nat
 | .done=>0
 | .take _ p=>p.depth+1
 | .fork l=>l.depth
 | .alt _ p r=>max (p.depth+1) r.depth
 | .nil=>0
def lP (ops:Array Oper) (E:Nat→Bool):bY→Array Bool→Prop
 | .done,listed=>Region.ready .any ops listed=[]
 | .take i p,listed=>i∈Region.ready .any ops listed∧(∃o,ops[i]? = some o∧(cW o.op||eX o.op)=true∧∃D,Zh ops E listed i D o)∧p.gD=true∧lP ops E p (listed.setIfInBounds i true)
 | .fork l,listed=>Region.ready .any ops listed≠[]∧(∀i∈Region.ready .any ops listed,i∈l.alts)∧lP ops E l listed
 | .alt i p r,listed=>p.gD=true∧lP ops E p (listed.setIfInBounds i true)∧lP ops E r listed
 | .nil,_=>True
def dz (c:Cx) (τ:bg) (gs:List (Nat×Tmp)) (ops:List Oper) (i:Nat) (st:St) (K:St→Prop):Prop :=
 az (ops[i]?) fun o=>match o with
 | some o=>match o.guard with
  | none=>cF c τ o st fun av st'=>eO gs i o.dst av st' K
  | some g=>az (guardOf gs st (some g)) fun b=>match b with
   | some true=>cF c τ o st fun av st'=>eO gs i o.dst av st' K
   | some false=>K (st.put o.dst (.cT .nil))
   | none=>False
 | none=>False
theorem AK{c:Cx}{τ:bg}(hτ:bg.Ok c.P τ){st:St}{a:Act}{w:World}{I:Nat→Prop}{F:List G}(hi:Inv c st.X st.κ w I F)(he:bw st.env a w I F)(hp:dS st.pl w I F){o:Oper}{K:AV→St→Prop}
  (ho:(cW o.op||eX o.op)=true) (hv:cF c τ o st K):∃av v,K av st∧Rl w.heap I F av true [v]∧∀w',(cW o.op=true∨Ext w w')→(execOp a.eval o).run c.P w'=.ok (.value v) w':=by
 have pure:∀{K':AV→Prop},(∀av,K' av→K av st)→jI τ o.op o.type st K'→∃av v,K av st∧Rl w.heap I F av true [v]∧∀w',(cW o.op=true∨Ext w w')→(execOp a.eval o).run c.P w'=.ok (.value v) w':=fun hk hv=>by
  obtain⟨av,v,h1,h2,h3⟩:=A1 hτ hi he hv
  exact⟨av,v,hk _ h1,h2,fun w' _=>h3 w'⟩
 unfold cF at hv
 split at hv
 ·rename_i t x hop
  obtain⟨av,v,h1,h2,h3⟩:=sJ hτ hi he hp (o:=o) (K:=fun av=>K av st) (by rw[hop];exact hv)
  exact⟨av,v,h1,h2,fun w' hw=>h3 w' (hw.resolve_left (by rw[hop];simp[cW]))⟩
 ·rename_i hop;rw[hop] at ho;cases ho
 ·rename_i hop;rw[hop] at ho;cases ho
 ·rename_i hop;rw[hop] at ho;cases ho
 ·rename_i hop;rw[hop] at ho;cases ho
 ·rename_i t parts hop
  obtain⟨av,v,h1,h2,h3⟩:=xz hτ he hv
  refine⟨av,v,h1,h2,fun w' _=>?_⟩
  obtain⟨dst,op,ty,pos,after,guard⟩:=o
  simp only at hop;subst hop
  simp[execOp,h3]
 ·rename_i t x lo hi' mx hop
  obtain⟨hm,hv⟩:=hv
  have opt:∀(x:Option Operand),MR w.heap I F (x.map st.ev) (x.map a.eval):=fun x=>by
   cases x with
   | none=>trivial
   | some x=>exact he.ev x
  obtain⟨av,v,h1,h2,h3⟩:=xu hτ hi (he.jO (τ:=τ) t x) (opt lo) (opt hi') (opt mx) (by simpa using hm) hv
  refine⟨av,v,h1,h2,fun w' _=>?_⟩
  obtain⟨dst,op,ty,pos,after,guard⟩:=o
  simp only at hop;subst hop
  simp[execOp,h3]
 ·rename_i cc hop
  split at hv
  ·rename_i dc;rw[hop] at ho;simp[cW,eX,dc] at ho
  ·rename_i dc;rw[hop] at ho;simp[cW,eX,dc] at ho
  ·rename_i dc;rw[hop] at ho;simp[cW,eX,dc] at ho
  ·rename_i f dc;rw[hop] at ho;simp[cW,eX,dc] at ho
  ·exact pure (K':=fun av=>K av st) (fun _ h=>h) (by rw[hop];exact hv)
 ·rename_i op t x y ty hop
  split at hv
  ·rename_i s u hx hy
   obtain⟨agJ,b,⟨h1,h2⟩,h3⟩:=hv
   have oH:=he.ev x
   have uZ:=he.ev y
   rw[hx] at oH
   rw[hy] at uZ
   obtain⟨xs,e1,r1⟩:=oH
   obtain⟨ys,e2,r2⟩:=uZ
   injection e1 with e1 _
   injection e2 with e2 _
   obtain⟨dst,op',ty',pos,after,guard⟩:=o
   simp only at hop;subst hop
   rcases agJ with rfl|rfl
   ·refine⟨_,.bool b,h3,⟨rfl,rfl⟩,fun w' _=>?_⟩
    have hr:=h2 w.heap I F xs ys w' r1 r2
    simp[execOp,eqGuard,h1,binOp,e1,e2,hr]
   ·refine⟨_,.bool !b,h3,⟨rfl,rfl⟩,fun w' _=>?_⟩
    have hr:=h2 w.heap I F xs ys w' r1 r2
    simp[execOp,eqGuard,h1,binOp,e1,e2,hr]
  ·exact pure (K':=fun av=>K av st) (fun _ h=>h) (by rw[hop];exact hv)
 ·rename_i hop;rw[hop] at ho;cases ho
 ·rename_i hop;rw[hop] at ho;cases ho
 ·rename_i hop;rw[hop] at ho;cases ho
 ·rename_i hop;rw[hop] at ho;cases ho
 ·exact pure (K':=fun av=>K av st) (fun _ h=>h) hv
section
variable {c:Cx} {τ:bg} {ops:List Oper} {gs:List (Nat×Tmp)} {Q:Exit→Act→World→Prop}
theorem rj(hnt:dY c.nt ops=true){i:Nat}{o:Oper}(ho:ops[i]? = some o):∀t,o.dst=some t→t<c.nt:=fun t ht=>by
 have:=List.all_eq_true.1 hnt o (List.mem_of_getElem? ho)
 rw[ht] at this;exact Nat.le_of_ble_eq_true this
def exts (EM:Nat) (ops:Array Oper) (i:Nat):Bool:=((ops[i]?).any fun o=>ff o.op)||Nat.testBit EM i
def qg (EM:Nat) (τ:bg) (ops:List Oper) (i:Nat) (st:St):Prop:=Nat.testBit EM i=true→∀o,ops[i]? = some o→o.guard=none∧qw τ st o
theorem UJ(hτ:bg.Ok c.P τ)(nh:oJ ops gs=true)(hnt:dY c.nt ops=true){i:Nat}{st:St}{a:Act}{w:World}{K:St→Prop}(h:Rel c st a w)(hv:dz c τ gs ops i st K) :
  wpOp c.P ops.toArray Q i (fun a' w'=>(((ops.toArray[i]?).any fun o=>ff o.op||bG τ st o.op)=true→Ext w w')∧∃st',K st'∧Rel c st' a' w') a w:=by
 unfold dz az at hv
 unfold wpOp
 cases ho:ops[i]? with
 | none=>rw[ho] at hv;exact hv.elim
 | some o =>
  rw[ho] at hv
  have ho':ops.toArray[i]? = some o:=by simpa using ho
  simp only[ho']
  simp only at hv
  have iN:=rj hnt ho
  have run:(cF c τ o st fun av st'=>eO gs i o.dst av st' K)→Region.wanted o (yielded ops.toArray a.tmps)=true →
    (if Region.wanted o (yielded ops.toArray a.tmps)=true then o.wp c.P a w (fun a' w'=>(((some o).any fun o=>ff o.op||bG τ st o.op)=true→Ext w w')∧∃st',K st'∧Rel c st' a' w') Q∨(o.asks c.P a w∧LetsOut Q)
     else (((some o).any fun o=>ff o.op||bG τ st o.op)=true→Ext w w)∧∃st',K st'∧Rel c st' (a.put o.dst undef) w):=fun hv hw=>by
   rw[if_pos hw]
   refine .inl (zn hτ h hv fun av v st' w' h1 h2 h3=>⟨fun he=>h3 (by simpa using he),?_⟩)
   exact fM h1 h2 iN
  cases hg:o.guard with
  | none =>
   rw[hg] at hv
   exact run hv (by simp[Region.wanted,hg])
  | some g =>
   rw[hg] at hv
   simp only at hv
   cases hb:guardOf gs st (some g) with
   | none=>rw[hb] at hv;exact hv.elim
   | some b =>
    rw[hb] at hv
    have hw:=cV nh h (o:=o) (b:=b) (by rw[hg];exact hb)
    cases b with
    | true=>exact run hv hw
    | false =>
     rw[if_neg (by rw[hw];simp)]
     obtain⟨hd,hs,I,F,hi,he,hp⟩:=h
     exact⟨fun _ _ _=>rfl,_,hv,gr.put (av:=.cT .nil) (v:=undef) ⟨hd,hs,I,F,hi,he,hp,[],rfl,rfl⟩ iN⟩
theorem Yc(hτ:bg.Ok c.P τ)(nh:oJ ops gs=true)(hnt:dY c.nt ops=true){EM:Nat}{i:Nat}{st:St}{a:Act}{w:World}{K:St→Prop}(h:Rel c st a w)(hf:qg EM τ ops i st)(hv:dz c τ gs ops i st K) :
  wpOp c.P ops.toArray Q i (fun a' w'=>(exts EM ops.toArray i=true→Ext w w')∧∃st',K st'∧Rel c st' a' w') a w:=by
 have h0:=UJ (Q:=Q) hτ nh hnt h hv
 cases he:Nat.testBit EM i with
 | false =>
  refine wpOp_mono (fun a' w' h1=>⟨fun h2=>h1.1 ?_,h1.2⟩) h0
  simp only[exts,he,Bool.or_false] at h2
  cases ho:ops.toArray[i]? with
  | none=>rw[ho] at h2;exact h2
  | some o=>rw[ho] at h2;simp only[Option.any_some] at h2 ⊢;rw[h2];rfl
 | true =>
  by_cases hcs:((ops.toArray[i]?).any fun o=>bG τ st o.op)=true
  ·refine wpOp_mono (fun a' w' h1=>⟨fun _=>h1.1 ?_,h1.2⟩) h0
   cases ho:ops.toArray[i]? with
   | none=>rw[ho] at hcs;exact hcs
   | some o=>rw[ho] at hcs;simp only[Option.any_some] at hcs ⊢;rw[hcs];simp
  unfold wpOp at h0 ⊢
  cases ho:ops[i]? with
  | none=>unfold dz az at hv;rw[ho] at hv;exact hv.elim
  | some o =>
   rw[show ops.toArray[i]? = some o by simpa using ho] at h0 ⊢
   obtain⟨hg,hfr⟩:=hf he o ho
   have hw:Region.wanted o (yielded ops.toArray a.tmps)=true:=by simp[Region.wanted,hg]
   simp only[hw,if_true] at h0 ⊢
   unfold dz az at hv
   rw[ho] at hv
   simp only[hg] at hv
   obtain⟨v,w',hrun,GS⟩:=zq hτ h hv hfr (by rw[show ops.toArray[i]? = some o by simpa using ho] at hcs;simpa using hcs)
   rcases h0 with h0|h0
   ·refine .inl ?_
    unfold Oper.wp at h0 ⊢
    rw[hrun] at h0 ⊢
    exact⟨fun _=>GS,h0.2⟩
   ·exact .inr h0
theorem Yd(hτ:bg.Ok c.P τ)(nh:oJ ops gs=true)(hnt:dY c.nt ops=true)(hsel:Region.noSelect ops.toArray=true){EM:Nat}{PV:bY→St→Prop}(hVd:∀st a w,PV .done st→Rel c st a w→Q .normal a w)
  (hVt:∀i p st,PV (.take i p) st→dz c τ gs ops i st (PV p)) (hVf:∀l st,PV (.fork l) st→PV l st) (hVa:∀i p r st,PV (.alt i p r) st→qg EM τ ops i st∧dz c τ gs ops i st (PV p)∧PV r st)
  (hQp:∀ch a w d v,Q (.panic ch) (Act.put a d v) w→Q (.panic ch) a w):∀(p:bY),
  (∀(listed:Array Bool) (fuel:Nat) (st:St) (a:Act) (w:World),p.gD=true→p.depth≤fuel→lP ops.toArray (exts EM ops.toArray) p listed→PV p st→Rel c st a w→nT c.P .any ops.toArray (exts EM ops.toArray) Q fuel listed a w) ∧
  (∀(listed:Array Bool) (fuel:Nat) (st:St) (a:Act) (w:World) (i:Nat),i∈p.alts→p.depth≤fuel+1→lP ops.toArray (exts EM ops.toArray) p listed→PV p st→Rel c st a w →
   wpOp c.P ops.toArray Q i (fun a' w'=>(exts EM ops.toArray i=true→Ext w w')∧nT c.P .any ops.toArray (exts EM ops.toArray) Q fuel (listed.setIfInBounds i true) a' w') a w):=by
 intro p
 induction p with
 | done =>
  refine⟨fun listed fuel st a w _ _ hok hv hr=>?_,fun _ _ _ _ _ _ h=>by cases h⟩
  exact uI hok (hVd st a w hv hr) fuel
 | nil=>exact⟨fun _ _ _ _ _ h=>(by cases h),fun _ _ _ _ _ _ h=>(by cases h)⟩
 | take i p ih =>
  refine⟨fun listed fuel st a w _ lQ hok hv hr=>?_,fun _ _ _ _ _ _ h=>by cases h⟩
  obtain⟨h1,⟨o,ho,h5,D,h6⟩,h3,h4⟩:=hok
  ·skip
   have ho':ops[i]? = some o:=by simpa using ho
   have iN:=rj hnt ho'
   cases fuel with
   | zero=>simp[bY.depth] at lQ
   | succ fuel =>
    simp only[bY.depth] at lQ
    obtain⟨hd,hs,I,F,hi,he,hp⟩:=id hr
    have key:∃v st',dI c.P ops.toArray (fun w'=>cW o.op=true∨Ext w w') o v a∧PV p st'∧Rel c st' (a.put o.dst v) w:=by
     have hv:=hVt i p st hv
     simp only[dz,az,ho'] at hv
     have run:(cF c τ o st fun av st'=>eO gs i o.dst av st' fun st=>PV p st)→Region.wanted o (yielded ops.toArray a.tmps)=true →
       ∃v st',dI c.P ops.toArray (fun w'=>cW o.op=true∨Ext w w') o v a∧PV p st'∧Rel c st' (a.put o.dst v) w:=fun hv hw=>by
      obtain⟨av,v,g1,g2,g3⟩:=AK hτ hi he hp h5 hv
      obtain⟨st',g4,g5⟩:=fM g1 ⟨hd,hs,I,F,hi,he,hp,g2⟩ iN
      exact⟨v,st',.inl ⟨hw,g3⟩,g4,g5⟩
     cases hg:o.guard with
     | none=>rw[hg] at hv;exact run hv (by simp[Region.wanted,hg])
     | some g =>
      rw[hg] at hv
      simp only at hv
      cases hb:guardOf gs st (some g) with
      | none=>rw[hb] at hv;exact hv.elim
      | some b =>
       rw[hb] at hv
       have hw:=cV nh hr (o:=o) (b:=b) (by rw[hg];exact hb)
       cases b with
       | true=>exact run hv hw
       | false=>exact⟨undef,_,.inr ⟨hw,rfl⟩,hv,gr.put (av:=.cT .nil) (v:=undef) ⟨hd,hs,I,F,hi,he,hp,[],rfl,rfl⟩ iN⟩
    obtain⟨v,st',g1,g2,g3⟩:=key
    obtain⟨h61,h62,h63⟩:=h6
    refine sN (D:=D) ho (Region.noSelect_spec hsel) (fun ch a w=>hQp ch a w _ _) ?_ h61 fuel listed a w h62 ?_ h1 g1 (.inr fun _ _=>rfl)
     (ih.1 (listed.setIfInBounds i true) fuel st' _ w h3 (by omega) h4 g2 g3)
    ·refine .inr fun w1 w2 hw hE=>?_
     rcases hw with hw|hw
     ·exact .inl hw
     ·refine .inr fun b hb=>?_
      have h7:=hw b hb
      have h8:b<w1.heap.size:=by
       rcases Nat.lt_or_ge b w1.heap.size with h'|h'
       ·exact h'
       ·rw[Array.getElem?_eq_none h',Array.getElem?_eq_getElem hb] at h7;cases h7
      rw[hE b h8,h7]
    ·intro j oj GR hne hun hD
     have:=h63 j oj GR hne hun hD
     exact⟨this.1,this.2.imp (fun h _=>.inl h) id⟩
 | fork l ih =>
  refine⟨fun listed fuel st a w _ lQ hok hv hr=>?_,fun _ _ _ _ _ _ h=>by cases h⟩
  obtain⟨h1,h2,h3⟩:=hok
  have hne:∃i,i∈Region.ready .any ops.toArray listed:=List.exists_mem_of_ne_nil _ h1
  cases fuel with
  | zero =>
   obtain⟨i,hi⟩:=hne
   have:=h2 i hi
   cases l<;>simp[bY.alts,bY.depth] at this lQ
  | succ fuel =>
   exact⟨fun h=>absurd h h1,fun i hi=>ih.2 listed fuel st a w i (h2 i hi) lQ h3 (hVf _ _ hv) hr⟩
 | alt i p r ihp ihr =>
  refine⟨fun _ _ _ _ _ h=>(by cases h),fun listed fuel st a w j hj lQ hok hv hr=>?_⟩
  obtain⟨h2,h3,h4⟩:=hok
  simp only[bY.depth] at lQ
  obtain⟨hv0,uA,tJ⟩:=hVa _ _ _ _ hv
  by_cases hji:j=i
  ·subst hji
   refine wpOp_mono (fun a' w' ⟨g1,st',g2,g3⟩=>⟨g1,?_⟩) (Yc hτ nh hnt hr hv0 uA)
   exact ihp.1 (listed.setIfInBounds j true) fuel st' a' w' h2 (by omega) h3 g2 g3
  ·exact ihr.2 listed fuel st a w j (by simpa[bY.alts,hji] using hj) (by omega) h4 tJ hr
end
structure Rw where
 w:Nat
 l:Nat
 d:Nat
 k:Nat
def uQ (t:Nat):Nat:=2 ^ t
def ug:List Nat→Nat
 | []=>0
 | t::l=>Nat.lor (uQ t) (ug l)
def rowOf (ops:Array Oper) (o:Oper):Rw where
 w:=ug ((o.after.toList.filter (Region.binds .any)).map (·.on))
 l:=ug (o.looksAt ops)
 d:=match o.dst with
  | some t=>uQ t
  | none=>0
 k:=Nat.add (bif cW o.op then 1 else 0) (Nat.add (bif eX o.op then 2 else 0) (bif ff o.op then 4 else 0))
def hasB (m t:Nat):Bool:=Nat.testBit m t
def gI (EM:Nat) (ops:Array Oper) (j:Nat) (o:Oper):Rw :=
 { rowOf ops o with k:=bif hasB EM j then Nat.lor (rowOf ops o).k 4 else (rowOf ops o).k }
def BJ (EM:Nat):List Rw→Nat→List Rw
 | [],_=>[]
 | r::T,j=>{ r with k:=bif hasB EM j then Nat.lor r.k 4 else r.k }::BJ EM T (j+1)
theorem KJ(EM:Nat):∀(T:List Rw) (j0 j:Nat),(BJ EM T j0)[j]? = (T[j]?).map fun r=>{ r with k:=bif hasB EM (j0+j) then Nat.lor r.k 4 else r.k }
 | [],_,_=>by simp[BJ]
 | r::T,j0,0=>by simp[BJ]
 | r::T,j0,j+1=>by simp only[BJ,List.getElem?_cons_succ];rw[KJ EM T (j0+1) j];simp only[show j0+1+j=j0+(j+1) by omega]
theorem Fl(EM:Nat):∀(T:List Rw) (j0:Nat),(BJ EM T j0).length=T.length
 | [],_=>rfl
 | r::T,j0=>by simp[BJ,Fl EM T (j0+1)]
def fU (a b:Nat):Bool:=!Nat.beq (Nat.land a b) 0
def s9 {α:Type} (m:Nat) (f:Nat→α):α:=match m with
 | 0=>f 0
 | n+1=>f (n+1)
theorem rJ{α:Type}(m:Nat)(f:Nat→α):s9 m f=f m:=by cases m<;>rfl
def pN (T:List Rw) (m j:Nat):Bool:=match T[j]? with
 | some r=>!hasB m j&&Nat.beq (Nat.land r.w m) r.w
 | none=>false
def BK:List Rw→Nat→Nat→Nat
 | [],_,D=>D
 | r::T,j,D=>s9 (bif fU r.w D then Nat.lor D (uQ j) else D) fun D=>BK T (j+1) D
def BL (x y:Rw):Bool:=!fU x.d y.l && !fU x.d y.d && !fU y.d x.l
def Fm (m i:Nat) (x:Rw) (D:Nat):List Rw→Nat→Bool
 | [],_=>true
 | r::T,j=>(bif Nat.beq j i then true else bif hasB D j then !hasB m j&&fU r.w D else hasB m j||(BL x r&&(fU x.k 1||fU r.k 4)))&&Fm m i x D T (j+1)
def qM (T:List Rw):bY→Nat→Bool
 | .done,m=>(List.range T.length).all fun j=>!pN T m j
 | .take i p,m=>pN T m i&&(match T[i]? with
  | some x=>fU x.k 3&&s9 (BK T 0 (uQ i)) fun D=>Fm m i x D T 0
  | none=>false)&&p.gD&&s9 (Nat.lor m (uQ i)) fun m=>qM T p m
 | .fork l,m=>(l.alts.all fun i=>Nat.blt i T.length)&&(List.range T.length).any (pN T m)&&((List.range T.length).all fun j=>!pN T m j||l.alts.any (Nat.beq j))&&qM T l m
 | .alt i p r,m=>p.gD&&(s9 (Nat.lor m (uQ i)) fun m=>qM T p m)&&qM T r m
 | .nil,_=>true
theorem pO(t u:Nat):hasB (uQ t) u=decide (t=u):=Nat.testBit_two_pow
theorem xF(a b t:Nat):hasB (Nat.lor a b) t=(hasB a t||hasB b t):=by
 show Nat.testBit (a ||| b) t=_
 simp[hasB]
theorem jG(t:Nat):hasB 0 t=false:=by simp[hasB]
theorem zO(l:List Nat)(t:Nat):hasB (ug l) t=l.contains t:=by
 induction l with
 | nil=>simp[ug,jG]
 | cons a l ih =>
  simp only[ug,xF,pO,ih,List.contains_cons]
  rw[Bool.eq_iff_iff]
  simp only[Bool.or_eq_true,decide_eq_true_eq,beq_iff_eq]
  exact or_congr_left eq_comm
theorem ta(a b t:Nat):hasB (Nat.land a b) t=(hasB a t&&hasB b t):=by
 show Nat.testBit (a &&& b) t=_
 simp[hasB]
theorem KL{a b:Nat}(h:∀t,hasB a t=hasB b t):a=b:=Nat.eq_of_testBit_eq h
theorem uR{a b:Nat}:fU a b=true↔∃t,hasB a t=true∧hasB b t=true:=by
 constructor
 ·intro h
  refine Classical.byContradiction fun hn=>?_
  have:Nat.land a b=0:=KL fun t=>by
   rw[ta,jG]
   cases h1:hasB a t<;>cases h2:hasB b t<;>simp
   exact hn ⟨t,h1,h2⟩
  unfold fU at h
  rw[this] at h
  cases h
 ·rintro⟨t,h1,h2⟩
  simp only[fU,Bool.not_eq_true',A9,decide_eq_false_iff_not]
  intro h
  have h3:hasB (Nat.land a b) t=true:=by rw[ta,h1,h2];rfl
  rw[h,jG] at h3
  cases h3
theorem oo{a b:Nat}(h:fU a b=false){t:Nat}(h1:hasB a t=true):hasB b t=false:=by
 cases h2:hasB b t with
 | false=>rfl
 | true=>rw[uR.2 ⟨t,h1,h2⟩] at h;cases h
section
variable {ops:Array Oper} {T:List Rw} {EM:Nat}
def xG (EM:Nat) (ops:Array Oper) (T:List Rw):Prop:=T.length=ops.size∧∀j,T[j]? = (ops[j]?).map (gI EM ops j)
theorem AL(EM:Nat){l:List Oper}{T0:List Rw}(h:l.map (rowOf l.toArray)=T0):xG EM l.toArray (BJ EM T0 0):=by
 subst h
 refine⟨by simp[Fl],fun j=>?_⟩
 rw[KJ]
 simp only[List.getElem?_map,Option.map_map,List.getElem?_toArray,Nat.zero_add]
 rfl
theorem JB(hT:xG EM ops T){j:Nat}:T[j]? = (ops[j]?).map (gI EM ops j):=hT.2 j
theorem uh{o:Oper}{i t:Nat}:hasB (gI EM ops i o).w t=true↔∃e∈o.after,Region.binds .any e=true∧e.on=t:=by
 simp only[gI,rowOf,zO,List.contains_iff_mem,List.mem_map,List.mem_filter,Array.mem_toList_iff]
 constructor
 ·rintro⟨e,⟨h1,h2⟩,h3⟩;exact⟨e,h1,h2,h3⟩
 ·rintro⟨e,h1,h2,h3⟩;exact⟨e,⟨h1,h2⟩,h3⟩
def Zi (ops:Array Oper) (listed:Array Bool) (m:Nat):Prop:=listed.size=ops.size∧∀j,listed.getD j false=hasB m j
theorem Zi.zP{listed:Array Bool}{m:Nat}(h:Zi ops listed m){j:Nat}{o:Oper}(hj:ops[j]? = some o):listed.getD j true=hasB m j:=by
 have hlt:j<listed.size:=by rw[h.1];exact(Array.getElem?_eq_some_iff.1 hj).1
 rw[←h.2 j];simp[hlt]
theorem Zi.set{listed:Array Bool}{m i:Nat}(h:Zi ops listed m)(hi:i<ops.size):Zi ops (listed.setIfInBounds i true) (Nat.lor m (uQ i)):=by
 refine⟨by simp[h.1],fun j=>?_⟩
 rw[xF,pO,←h.2 j]
 have hi':i<listed.size:=by rw[h.1];exact hi
 by_cases hij:i=j
 ·subst hij;simp[hi']
 ·rw[Array.getD_eq_getD_getElem?,Array.getElem?_setIfInBounds_ne hij];simp[hij]
theorem oq(hT:xG EM ops T){listed:Array Bool}{m j:Nat}(h:Zi ops listed m):pN T m j=true↔j∈Region.ready .any ops listed:=by
 rw[mem_ready]
 unfold pN
 rw[JB hT]
 cases ho:ops[j]? with
 | none=>simp
 | some o =>
  have h1:=h.zP ho
  simp only[Option.map_some,Bool.and_eq_true,Bool.not_eq_true',h1,A9,decide_eq_true_eq]
  refine and_congr_right fun _=>⟨fun hw=>⟨o,rfl,fun e he hb=>?_⟩,fun ⟨o',ho',hall⟩=>?_⟩
  ·have h2:hasB (gI EM ops j o).w e.on=true:=uh.2 ⟨e,he,hb,rfl⟩
   rw[h.2]
   rw[←hw,ta] at h2
   simp only[Bool.and_eq_true] at h2
   exact h2.2
  ·cases ho'
   refine KL fun t=>?_
   rw[ta]
   cases h2:hasB (gI EM ops j o).w t with
   | false=>rfl
   | true =>
    obtain⟨e,he,hb,rfl⟩:=uh.1 h2
    have:=hall e he hb
    rw[h.2] at this
    simp[this]
theorem O4{x y:Oper}{i j:Nat}(h:BL (gI EM ops i x) (gI EM ops j y)=true):x.apart ops y=true:=by
 simp only[BL,gI,Bool.and_eq_true,Bool.not_eq_true'] at h
 obtain⟨⟨h1,h2⟩,h3⟩:=h
 have dst:∀(o:Oper) (d:Nat),o.dst=some d→hasB (rowOf ops o).d d=true:=fun o d hd=>by simp[rowOf,hd,pO]
 have look:∀(o:Oper) (d:Nat),hasB (rowOf ops o).l d=(o.looksAt ops).contains d:=fun o d=>by simp only[rowOf];rw[zO]
 unfold Oper.apart
 simp only[Bool.and_eq_true]
 constructor
 ·cases hd:x.dst with
  | none=>rfl
  | some d =>
   have h4:=oo h1 (dst x d hd)
   rw[look] at h4
   have h5:=oo h2 (dst x d hd)
   simp only[h4,Bool.not_false,Bool.true_and,bne_iff_ne,ne_eq]
   intro hy
   rw[dst y d hy] at h5;cases h5
 ·cases hd:y.dst with
  | none=>rfl
  | some d =>
   have h4:=oo h3 (dst y d hd)
   rw[look] at h4
   simp only[h4,Bool.not_false]
theorem O5(i:Nat)(o:Oper):fU (gI EM ops i o).k 1=cW o.op:=by
 simp only[gI,rowOf]
 cases hasB EM i<;>cases cW o.op<;>cases eX o.op<;>cases ff o.op<;>rfl
theorem UK(i:Nat)(o:Oper):fU (gI EM ops i o).k 4=(ff o.op||hasB EM i):=by
 simp only[gI,rowOf]
 cases hasB EM i<;>cases cW o.op<;>cases eX o.op<;>cases ff o.op<;>rfl
theorem JC(i:Nat)(o:Oper):fU (gI EM ops i o).k 3=(cW o.op||eX o.op):=by
 simp only[gI,rowOf]
 cases hasB EM i<;>cases cW o.op<;>cases eX o.op<;>cases ff o.op<;>rfl
theorem Fp{m i D:Nat}{x:Rw}:∀(T:List Rw) (j0:Nat),Fm m i x D T j0=true→∀k r,T[k]? = some r →
  (bif Nat.beq (j0+k) i then true else bif hasB D (j0+k) then !hasB m (j0+k)&&fU r.w D else hasB m (j0+k)||(BL x r&&(fU x.k 1||fU r.k 4)))=true
 | [],_,_,k,r,h=>by simp at h
 | r0::T,j0,h,k,r,hk=>by
  simp only[Fm,Bool.and_eq_true] at h
  cases k with
  | zero=>simp only[List.getElem?_cons_zero,Option.some.injEq] at hk;subst hk;simpa using h.1
  | succ k =>
   have:=Fp T (j0+1) h.2 k r (by simpa using hk)
   rw[show j0+1+k=j0+(k+1) by omega] at this
   exact this
theorem UL(hT:xG EM ops T){listed:Array Bool}{m i D:Nat}(h:Zi ops listed m){o:Oper}(hDi:∀j,hasB D j=true→j<ops.size)
  (hf:Fm m i (gI EM ops i o) D T 0=true):Zh ops (exts EM ops) listed i (fun j=>hasB D j && !Nat.beq j i) o:=by
 have key:∀j oj,ops[j]? = some oj→_:=fun j oj hj=>Fp T 0 hf j (gI EM ops j oj) (by rw[JB hT,hj];rfl)
 refine⟨fun j oj hj hD=>?_,fun j hD=>?_,fun j oj hj hne hun hD=>?_⟩
 ·simp only[Bool.and_eq_true,Bool.not_eq_true'] at hD
  have:=key j oj hj
  simp only[Nat.zero_add,hD.2,cond_false,hD.1,cond_true,Bool.and_eq_true] at this
  obtain⟨t,h1,h2⟩:=uR.1 this.2
  obtain⟨e,he,hb,rfl⟩:=uh.1 h1
  refine⟨e,he,hb,?_⟩
  by_cases hei:e.on=i
  ·exact .inl hei
  ·exact .inr (by simp[h2,hei])
 ·simp only[Bool.and_eq_true,Bool.not_eq_true'] at hD
  have hlt:=hDi j hD.1
  have:=key j _ (Array.getElem?_eq_getElem hlt)
  simp only[Nat.zero_add,hD.2,cond_false,hD.1,cond_true,Bool.and_eq_true,Bool.not_eq_true'] at this
  rw[h.2];exact this.1
 ·have:=key j oj hj
  have hji:Nat.beq j i=false:=by simpa using hne
  simp only[hji,Bool.not_false,Bool.and_true] at hD
  rw[h.zP hj] at hun
  simp only[Nat.zero_add,hji,hD,cond_false,hun,Bool.false_or,Bool.and_eq_true,Bool.or_eq_true,O5,UK] at this
  refine⟨O4 this.1,this.2.imp id fun h'=>?_⟩
  simp only[exts,hj,Option.any_some,Bool.or_eq_true]
  exact h'
theorem zQ{n:Nat}:∀(T:List Rw) (j D:Nat),j+T.length≤n→(∀k,hasB D k=true→k<n)→∀k,hasB (BK T j D) k=true→k<n
 | [],_,_,_,h=>h
 | r::T,j,D,hl,h=>by
  simp only[BK,rJ,List.length_cons] at *
  refine zQ T (j+1) _ (by omega) fun k hk=>?_
  cases hm:fU r.w D with
  | false=>rw[hm] at hk;exact h k hk
  | true =>
   rw[hm,cond_true,xF,pO] at hk
   simp only[Bool.or_eq_true,decide_eq_true_eq] at hk
   rcases hk with hk|hk
   ·exact h k hk
   ·omega
theorem sK(hT:xG EM ops T):∀(p:bY) (listed:Array Bool) (m:Nat),Zi ops listed m→(∀i∈p.alts,i<ops.size)→qM T p m=true→lP ops (exts EM ops) p listed:=by
 have hTl:T.length=ops.size:=hT.1
 have hlt:∀{m i:Nat},pN T m i=true→i<ops.size:=fun {m i} h=>by
  unfold pN at h
  cases hi:T[i]? with
  | none=>rw[hi] at h;cases h
  | some r=>have:=(List.getElem?_eq_some_iff.1 hi).1;omega
 intro p
 induction p with
 | done =>
  intro listed m h _ hp
  simp only[qM,List.all_eq_true,List.mem_range,Bool.not_eq_true'] at hp
  refine List.eq_nil_iff_forall_not_mem.2 fun j hj=>?_
  have h1:=(oq hT h).2 hj
  have h2:=hp j (by rw[hTl];exact hlt h1)
  rw[h1] at h2;cases h2
 | nil=>intros;trivial
 | take i p ih =>
  intro listed m h _ hp
  simp only[qM,Bool.and_eq_true,rJ] at hp
  obtain⟨⟨⟨h1,h2⟩,h3⟩,h4⟩:=hp
  have hi:=hlt h1
  have ho:ops[i]? = some ops[i]:=Array.getElem?_eq_getElem hi
  rw[JB hT,ho] at h2
  simp only[Option.map_some,Bool.and_eq_true,JC] at h2
  refine⟨(oq hT h).1 h1,⟨_,ho,h2.1,_,UL hT h (zQ T 0 _ (by omega) fun k hk=>?_) h2.2⟩,h3,ih _ _ (h.set hi) (fun j hj=>?_) h4⟩
  ·rw[pO] at hk;simp only[decide_eq_true_eq] at hk;omega
  ·cases p<;>simp[bY.alts,bY.gD] at hj h3
 | fork l ih =>
  intro listed m h _ hp
  simp only[qM,Bool.and_eq_true,List.any_eq_true,List.all_eq_true,List.mem_range,Bool.or_eq_true,Bool.not_eq_true',A9,decide_eq_true_eq] at hp
  obtain⟨⟨⟨h0,j,h1,h2⟩,h3⟩,h4⟩:=hp
  refine⟨fun hn=>?_,fun i hi=>?_,ih listed m h (fun i hi=>by have:=h0 i hi;simp only[X7,decide_eq_true_eq] at this;omega) h4⟩
  ·have:=(oq hT h).1 h2
   rw[hn] at this;cases this
  ·have h5:=(oq hT h).2 hi
   rcases h3 i (by rw[hTl];exact hlt h5) with h6|⟨k,h6,rfl⟩
   ·rw[h5] at h6;cases h6
   ·exact h6
 | alt i p r ihp ihr =>
  intro listed m h ha hp
  simp only[qM,Bool.and_eq_true,rJ] at hp
  obtain⟨⟨h1,h2⟩,h3⟩:=hp
  refine⟨h1,ihp _ _ (h.set (ha i List.mem_cons_self)) (fun j hj=>?_) h2,ihr _ _ h (fun j hj=>ha j (List.mem_cons_of_mem _ hj)) h3⟩
  cases p<;>simp[bY.alts,bY.gD] at hj h1
end
def gm (EM nt:Nat) (ops:List Oper) (gs:List (Nat×Tmp)) (T:List Rw) (p:bY):Bool :=
 dY nt ops&&oJ ops gs&&Region.noSelect ops.toArray&&p.gD&&Nat.ble p.depth ops.length&&qM (BJ EM T 0) p 0
inductive OP where
 | done
 | yes
 | run (l:List Nat) (p:OP)
 | both (p q:OP)
 | eS (i:Nat) (p:OP)
def OP.push (i:Nat):OP→OP
 | .run l q=>.run (i::l) q
 | q=>.run [i] q
def OP.mark (EM i:Nat) (p:OP):OP:=bif Nat.testBit EM i then .eS i p else p
def lH (EM:Nat):bY→OP
 | .done=>.done
 | .take i p=>(lH EM p).push i
 | .fork l=>lH EM l
 | .alt i p .nil=>OP.mark EM i ((lH EM p).push i)
 | .alt i p r=>.both (OP.mark EM i ((lH EM p).push i)) (lH EM r)
 | .nil=>.yes
def fQ (ops:List Oper):List Nat→List (Nat×Option Oper)
 | []=>[]
 | i::l=>(i,ops[i]?)::fQ ops l
def jq (c:Cx) (τ:bg) (gs:List (Nat×Tmp)):List (Nat×Option Oper)→St→(St→Prop)→Prop
 | [],st,K=>K st
 | (i,some o)::r,st,K=>match guardOf gs st o.guard with
  | some true=>cF c τ o st fun av st'=>eO gs i o.dst av st' fun st=>jq c τ gs r st K
  | some false=>jq c τ gs r (st.put o.dst (.cT .nil)) K
  | none=>False
 | (_,none)::_,_,_=>False
def ov (τ:bg) (st:St):Option Oper→Prop
 | some o=>o.guard=none∧qw τ st o
 | none=>True
def cg (c:Cx) (τ:bg) (gs:List (Nat×Tmp)) (ops:List Oper):OP→St→(St→Prop)→Prop
 | .done,st,K=>K st
 | .yes,_,_=>True
 | .run l p,st,K=>jq c τ gs (fQ ops l) st fun st=>cg c τ gs ops p st K
 | .both p q,st,K=>cg c τ gs ops p st K∧cg c τ gs ops q st K
 | .eS i p,st,K=>ov τ st (ops[i]?)∧cg c τ gs ops p st K
section
variable {c:Cx} {τ:bg} {gs:List (Nat×Tmp)} {ops:List Oper}
theorem eo{i:Nat}{l:List Nat}{st:St}{K:St→Prop}(h:jq c τ gs (fQ ops (i::l)) st K):dz c τ gs ops i st fun st=>jq c τ gs (fQ ops l) st K:=by
 unfold dz az
 simp only[fQ] at h
 cases ho:ops[i]? with
 | none=>rw[ho] at h;exact h.elim
 | some o =>
  rw[ho] at h
  unfold jq at h
  simp only
  cases hg:o.guard with
  | none=>rw[hg] at h;exact h
  | some g =>
   rw[hg] at h
   simp only at h ⊢
   cases hb:guardOf gs st (some g) with
   | none=>rw[hb] at h;exact h.elim
   | some b=>rw[hb] at h;cases b<;>exact h
theorem lU{i:Nat}{p:OP}{st:St}{K:St→Prop}(h:cg c τ gs ops (p.push i) st K):dz c τ gs ops i st fun st=>cg c τ gs ops p st K:=by
 cases p with
 | run l q=>exact eo h
 | done=>exact eo (l:=[]) h
 | yes=>exact eo (l:=[]) h
 | both p q=>exact eo (l:=[]) h
 | eS j p=>exact eo (l:=[]) h
theorem xH{EM i:Nat}{p:OP}{st:St}{K:St→Prop}(h:cg c τ gs ops (OP.mark EM i p) st K):qg EM τ ops i st∧cg c τ gs ops p st K:=by
 unfold OP.mark at h
 unfold qg
 cases he:Nat.testBit EM i with
 | false=>rw[he] at h;exact⟨fun h'=>(by cases h'),h⟩
 | true =>
  rw[he] at h
  exact⟨fun _ o ho=>(by have h1:=h.1;rw[ho] at h1;exact h1),h.2⟩
theorem tZ{EM i:Nat}{p r:bY}{st:St}{K:St→Prop}(h:cg c τ gs ops (lH EM (.alt i p r)) st K):qg EM τ ops i st∧(dz c τ gs ops i st fun st=>cg c τ gs ops (lH EM p) st K)∧cg c τ gs ops (lH EM r) st K:=by
 cases r with
 | nil=>obtain⟨h1,h2⟩:=xH h;exact⟨h1,lU h2,trivial⟩
 | _=>obtain⟨h1,h2⟩:=xH h.1;exact⟨h1,lU h2,h.2⟩
theorem VC.tY{P:Program}{nt:Nat}{w0:World}{I0:Nat→Prop}{F0:List G}{τ:bg}(hτ:bg.Ok P τ)(hm:P.follows .mixedOrders=true){id:Nat}{ops:List Oper}{K:Exit→St→Prop}{st:St}(EM:Nat)(gs:List (Nat×Tmp))(T:List Rw)(p:bY)(o:OP)
  (hT:ops.map (rowOf ops.toArray)=T) (hok:gm EM nt ops gs T p=true) (ho:lH EM p=o) (h:cg ⟨P,nt,w0,I0,F0⟩ τ gs ops o st (K .normal)):VC ⟨P,nt,w0,I0,F0⟩ (.region id ops.toArray true) K st:=fun a w hr=>by
 subst ho
 simp only[gm,Bool.and_eq_true] at hok
 obtain⟨⟨⟨⟨⟨h1,h2⟩,h3⟩,h4⟩,h5⟩,h6⟩:=hok
 have hr':Rel ⟨P,nt,w0,I0,F0⟩ st a { w with drawn:=w.drawn+1 }:=hr.quiet rfl rfl rfl rfl
 have hall:=(Yd (Q:=fun e a w=>e=.normal∧∃st',K .normal st'∧Rel ⟨P,nt,w0,I0,F0⟩ st' a w) (EM:=EM) (PV:=fun p st=>cg ⟨P,nt,w0,I0,F0⟩ τ gs ops (lH EM p) st (K .normal)) hτ h2 h1 h3 (fun st a w g1 g2=>⟨rfl,st,g1,g2⟩)
  (fun _ _ _ h=>lU h) (fun _ _ h=>h) (fun _ _ _ _ h=>tZ h) (fun _ _ _ _ _ h=>by cases h.1) p).1
  (Array.replicate ops.length false) ops.length st a _ h4 (Nat.le_of_ble_eq_true h5) (sK (AL EM hT) p _ 0 ⟨by simp,fun j=>by rw[jG];simp[Array.getElem?_replicate];split<;>rfl⟩ (fun i hi=>by cases p<;>simp[bY.alts,bY.gD] at hi h4) h6) h hr'
 have GW:(Code.region id ops.toArray true).wp P (fun e a w=>e=.normal∧∃st',K .normal st'∧Rel ⟨P,nt,w0,I0,F0⟩ st' a w) a w:=wp_region_any hm (by simpa using nU _ _ _ _ hall)
 refine wp_mono GW fun e a w hq=>?_
 obtain⟨he,st',g1,g2⟩:=hq
 subst he
 exact⟨st',g1,g2⟩
theorem VC.drawn{P:Program}{nt:Nat}{w0:World}{I0:Nat→Prop}{F0:List G}{τ:bg}(hτ:bg.Ok P τ)(hm:P.follows .mixedOrders=true){id:Nat}{ops:List Oper}{K:Exit→St→Prop}{st:St}(gs:List (Nat×Tmp))(T:List Rw)(p:bY)(o:OP)
  (hT:ops.map (rowOf ops.toArray)=T) (hok:gm 0 nt ops gs T p=true) (ho:lH 0 p=o) (h:cg ⟨P,nt,w0,I0,F0⟩ τ gs ops o st (K .normal)):VC ⟨P,nt,w0,I0,F0⟩ (.region id ops.toArray true) K st :=
 VC.tY hτ hm 0 gs T p o hT hok ho h
theorem O6{i:Nat}{p:OP}{st:St}{K:St→Prop}:cg c τ gs ops (.eS i p) st K=(ov τ st (ops[i]?)∧cg c τ gs ops p st K):=by rw[cg]
theorem xI{st:St}{dst:Option Tmp}{ty:TypeId}{pos:String}{after:Array Edge}{x y:Operand}{t u:TypeId}:ov τ st (some ⟨dst,.call ⟨.builtin .append,#[x,y],#[t,u]⟩,ty,pos,after,none⟩)=(om (st.jO τ t x)=true):=by simp[ov,qw]
theorem BM{st:St}{dst:Option Tmp}{ty:TypeId}{pos:String}{after:Array Edge}{f:Operand}{xs:List Operand}{ts:List TypeId}:ov τ st (some ⟨dst,.call ⟨.value f,xs.toArray,ts.toArray⟩,ty,pos,after,none⟩)=(sY (jF τ st xs ts) (st.ev f)=true):=by simp[ov,qw,bG]
theorem O7{l:List Nat}{p:OP}{st:St}{K:St→Prop}:cg c τ gs ops (.run l p) st K=jq c τ gs (fQ ops l) st fun st=>cg c τ gs ops p st K:=by rw[cg]
theorem JD{p q:OP}{st:St}{K:St→Prop}:cg c τ gs ops (.both p q) st K=(cg c τ gs ops p st K∧cg c τ gs ops q st K):=by rw[cg]
theorem JE{st:St}{K:St→Prop}:cg c τ gs ops .done st K=K st:=by rw[cg]
theorem O8{st:St}{K:St→Prop}:cg c τ gs ops .yes st K=True:=by rw[cg]
end
@[congr] theorem Zj{c:Cx}{τ:bg}{gs:List (Nat×Tmp)}{l:List (Nat×Option Oper)}{st st':St}{K:St→Prop}(h:tick st=st'):jq c τ gs l st K=jq c τ gs l st' K:=by rw[bl] at h;rw[h]
section
variable {c:Cx} {τ:bg} {gs:List (Nat×Tmp)} {st:St} {K:St→Prop} {i:Nat} {dst:Option Tmp} {op:Op} {ty:TypeId} {pos:String} {after:Array Edge} {g:Nat×Bool} {r:List (Nat×Option Oper)}
theorem Ye:jq c τ gs [] st K=K st:=rfl
theorem UM:jq c τ gs ((i,some ⟨dst,op,ty,pos,after,none⟩)::r) st K=cF c τ ⟨dst,op,ty,pos,after,none⟩ st fun av st'=>eO gs i dst av st' fun st=>jq c τ gs r st K:=rfl
theorem O9:jq c τ gs ((i,some ⟨dst,op,ty,pos,after,some g⟩)::r) st K=az (guardOf gs st (some g)) fun b=>match b with
  | some true=>cF c τ ⟨dst,op,ty,pos,after,some g⟩ st fun av st'=>eO gs i dst av st' fun st=>jq c τ gs r st K
  | some false=>jq c τ gs r (st.put dst (.cT .nil)) K
  | none=>False:=rfl
end
end Go.Vc

namespace Go.Vc
set_option linter.all false
open T (cM blk)
def aa (κ':List (Nat×Path)) (e:Nat×Path):Bool:=κ'.any fun x=>Nat.beq x.1 e.1&&ah x.2 e.2
theorem ox:∀{p q r:Path},ah p q=true→ah q r=true→ah p r=true
 | [],_,_,_,_=>by simp[ah]
 | .f a::p,.f b::q,.f c::r,h1,h2=>by
  simp only[ah,Bool.and_eq_true,beq_iff_eq] at *
  exact⟨h1.1.trans h2.1,ox h1.2 h2.2⟩
 | .i a::p,.i b::q,.i c::r,h1,h2=>by simp only[ah] at *;exact ox h1 h2
 | .d::p,.d::q,.d::r,h1,h2=>by simp only[ah] at *;exact ox h1 h2
 | .f _::_,.i _::_,_,h1,_=>by simp[ah] at h1
 | .f _::_,.d::_,_,h1,_=>by simp[ah] at h1
 | .f _::_,[],_,h1,_=>by simp[ah] at h1
 | .i _::_,.f _::_,_,h1,_=>by simp[ah] at h1
 | .i _::_,.d::_,_,h1,_=>by simp[ah] at h1
 | .i _::_,[],_,h1,_=>by simp[ah] at h1
 | .d::_,.f _::_,_,h1,_=>by simp[ah] at h1
 | .d::_,.i _::_,_,h1,_=>by simp[ah] at h1
 | .d::_,[],_,h1,_=>by simp[ah] at h1
 | .f _::_,.f _::_,[],_,h2=>by simp[ah] at h2
 | .f _::_,.f _::_,.i _::_,_,h2=>by simp[ah] at h2
 | .f _::_,.f _::_,.d::_,_,h2=>by simp[ah] at h2
 | .i _::_,.i _::_,[],_,h2=>by simp[ah] at h2
 | .i _::_,.i _::_,.f _::_,_,h2=>by simp[ah] at h2
 | .i _::_,.i _::_,.d::_,_,h2=>by simp[ah] at h2
 | .d::_,.d::_,[],_,h2=>by simp[ah] at h2
 | .d::_,.d::_,.f _::_,_,h2=>by simp[ah] at h2
 | .d::_,.d::_,.i _::_,_,h2=>by simp[ah] at h2
theorem tc:∀{p q:Path},ah p q=true→p.length≤q.length
 | [],_,_=>by simp
 | .f a::p,.f b::q,h=>by simp only[ah,Bool.and_eq_true] at h;have:=tc h.2;simp;omega
 | .i a::p,.i b::q,h=>by simp only[ah] at h;have:=tc h;simp;omega
 | .d::p,.d::q,h=>by simp only[ah] at h;have:=tc h;simp;omega
 | .f _::_,.i _::_,h1=>by simp[ah] at h1
 | .f _::_,.d::_,h1=>by simp[ah] at h1
 | .f _::_,[],h1=>by simp[ah] at h1
 | .i _::_,.f _::_,h1=>by simp[ah] at h1
 | .i _::_,.d::_,h1=>by simp[ah] at h1
 | .i _::_,[],h1=>by simp[ah] at h1
 | .d::_,.f _::_,h1=>by simp[ah] at h1
 | .d::_,.i _::_,h1=>by simp[ah] at h1
 | .d::_,[],h1=>by simp[ah] at h1
theorem iE{κ κ':List (Nat×Path)}(h:κ.all (aa κ')=true){k:Nat}{q:Path}{s:Bool}(hd:dead κ' k q s=false):dead κ k q s=false:=by
 unfold dead at *
 rw[List.any_eq_false] at *
 rintro⟨k0,q0⟩ hm hx
 simp only[Bool.and_eq_true,beq_iff_eq] at hx
 obtain⟨rfl,h1,h2⟩:=hx
 have:=List.all_eq_true.1 h _ hm
 simp only[aa,List.any_eq_true,Bool.and_eq_true,Nat.beq_eq] at this
 obtain⟨⟨k1,q1⟩,uq,rfl,h3⟩:=this
 refine hd (k1,q1) uq ?_
 simp only[Bool.and_eq_true,beq_self_eq_true,true_and,Bool.or_eq_true,decide_eq_true_eq] at h2 ⊢
 refine⟨ox h3 h1,h2.imp id fun h=>?_⟩
 have h4:q1.length≤q0.length:=tc h3
 have h5:q0.length<q.length:=h
 show q1.length<q.length
 omega
theorem VC.lp{c:Cx}{code:Code}{K:Exit→St→Prop}{st:St}(κ':List (Nat×Path))(h:st.κ.all (aa κ')=true)(hv:VC c code K { st with κ:=κ' }):VC c code K st :=
 VC.ghost (st':={ st with κ:=κ' }) (fun _ _ ⟨h1,h2,I,F,hi,he,hp⟩=>⟨h1,h2,I,F,hi.iY (κ':=κ') (fun _ _ _ _ hd=>iE h hd),he,hp⟩) hv
def cK:Path→Path→Option Path
 | [],p=>some p
 | a::q,b::p=>if a=b then cK q p else none
 | _::_,[]=>none
theorem nC:∀{q p r:Path},cK q p=some r→p=q++r
 | [],p,r,h=>by simpa[cK] using h
 | a::q,b::p,r,h=>by
  simp only[cK] at h
  split at h
  ·rename_i e;rw[e,nC h];rfl
  ·cases h
 | _::_,[],_,h=>by cases h
def AV.lift (k:Nat) (q:Path) (N:Nat):AV→AV
 | .ptr k' p=>if k'=k then match cK q p with
   | some (s::r)=>.ptr N (s::r)
   | _=>(AV.ptr k' p).kill [(k,q)]
  else .ptr k' p
 | .sub k' p lo n ex=>if k'=k then match cK q p with
   | some r=>.sub N r lo n ex
   | none=>(AV.sub k' p lo n ex).kill [(k,q)]
  else .sub k' p lo n ex
 | .mp k' p=>if k'=k then match cK q p with
   | some r=>.mp N r
   | none=>(AV.mp k' p).kill [(k,q)]
  else .mp k' p
 | .cons a t=>.cons (a.lift k q N) (t.lift k q N)
 | .agg s=>.agg (s.lift k q N)
 | .cT s=>.cT (s.lift k q N)
 | .fn f s=>.fn f (s.lift k q N)
 | a=>a
def dV (N:Nat):D→AV
 | .sl _ _ _ s=>.sub N [] 0 s.len false
 | .box _ _ _=>.ptr N [.d]
 | .map _ _ _=>.mp N []
 | _=>.bad
def cJ (k:Nat) (q:Path) (N:Nat):List (Nat×Path×AV)→List (Nat×Path×AV)
 | []=>[]
 | (k',p,av)::l=>if k'=k then match cK q p with
   | some r=>(N,r,av.lift k q N)::cJ k q N l
   | none=>bif dead [(k,q)] k' p true then cJ k q N l else (k',p,av.lift k q N)::cJ k q N l
  else (k',p,av.lift k q N)::cJ k q N l
def St.lift (nb:Nat) (st:St) (k:Nat) (q:Path):St where
 env:=st.env.map fun e=>(e.1,e.2.lift k q st.X.length)
 X:=st.X.set k ((st.tree k).set q (.aH ()))++[(st.tree k).at_ q]
 κ:=(bif Nat.ble nb k then [] else [(k,q)])++st.κ
 pl:=(k,q,dV st.X.length ((st.tree k).at_ q))::cJ k q st.X.length st.pl
theorem KM{h:Array Obj}{I:Nat→Prop}{F F':List G}{k N:Nat}{q:Path}{g:G}(hg:F[k]? = some g)(hok:g.dU q=true)(hh:aW (g.at_ q)=true)(hN:F'[N]? = some (g.at_ q))
  (hkeep:∀av m vs,av.dZ [(k,q)]=false→Rl h I F av m vs→Rl h I F' av m vs) (av:AV):∀{m:Bool} {vs:List Value},Rl h I F av m vs→Rl h I F' (av.lift k q N) m vs:=by
 have ajb:∀{m:Bool} {v:Value},v.oneCell'=true→Rl h I F' .bad m [v]:=fun {m v} hv=>by cases m;exact⟨v,rfl,hv⟩;exact⟨v,rfl⟩
 have JF:∀{av:AV} {m:Bool} {v:Value},v.oneCell'=true→Rl h I F av m [v]→Rl h I F' (av.kill [(k,q)]) m [v]:=fun {av m v} hv H=>by
  unfold AV.kill
  cases hd:av.dZ [(k,q)] with
  | true=>exact H.rip (.inr hv)
  | false=>exact hkeep _ _ _ hd H
 have other:∀(k':Nat) (p:Path) (s:Bool),k'≠k→dead [(k,q)] k' p s=false:=fun k' p s hne=>by
  have:(k'==k)=false:=by simpa using hne
  simp[dead,this]
 induction av with
 | ptr k' p =>
  intro m vs H
  simp only[AV.lift]
  have one:∃v,vs=[v]∧v.oneCell'=true:=by cases m<;>(obtain⟨b,o,_,rfl⟩:=H;exact⟨_,rfl,rfl⟩)
  obtain⟨v,rfl,hv⟩:=one
  split
  ·rename_i hk
   subst hk
   split
   ·rename_i s r hs
    have hp:=nC hs
    subst hp
    cases m <;>
    ·obtain⟨b,o,h1,h2⟩:=H
     refine⟨b,o,?_,h2⟩
     unfold dF at *
     rw[hg] at h1
     rw[hN]
     simp only[Option.bind_some] at h1 ⊢
     rw[←T.zM hok hh (by simp)];exact h1
   ·exact JF hv H
  ·rename_i hk
   exact hkeep _ _ _ (other _ _ _ hk) H
 | sub k' p lo n ex =>
  intro m vs H
  simp only[AV.lift]
  have one:∃v,vs=[v]∧v.oneCell'=true:=by
   cases m<;>(obtain⟨own,a,z,len,v,_,rfl,A,c,rfl,_⟩:=H;exact⟨_,rfl,rfl⟩)
  obtain⟨v,rfl,hv⟩:=one
  split
  ·rename_i hk
   subst hk
   split
   ·rename_i r hs
    have hp:=nC hs
    subst hp
    cases m <;>
    ·obtain⟨own,a,z,len,v,h1,h2⟩:=H
     refine⟨own,a,z,len,v,?_,h2⟩
     unfold bM at *
     rw[hg] at h1
     rw[hN]
     simpa only[Option.bind_some,T.cY] using h1
   ·exact JF hv H
  ·rename_i hk
   exact hkeep _ _ _ (other _ _ _ hk) H
 | mp k' p =>
  intro m vs H
  simp only[AV.lift]
  have one:∃v,vs=[v]∧v.oneCell'=true:=by cases m<;>(obtain⟨own,r,z,len,_,rfl⟩:=H;exact⟨_,rfl,rfl⟩)
  obtain⟨v,rfl,hv⟩:=one
  split
  ·rename_i hk
   subst hk
   split
   ·rename_i r hs
    have hp:=nC hs
    subst hp
    cases m <;>
    ·obtain⟨own,a,z,len,h1,h2⟩:=H
     refine⟨own,a,z,len,?_,h2⟩
     unfold bM at *
     rw[hg] at h1
     rw[hN]
     simpa only[Option.bind_some,T.cY] using h1
   ·exact JF hv H
  ·rename_i hk
   exact hkeep _ _ _ (other _ _ _ hk) H
 | cons a t kz bO=>intro m vs H;cases m<;>(obtain⟨v1,v2,h1,h2,h3⟩:=H;exact⟨v1,v2,h1,kz h2,bO h3⟩)
 | agg s ih =>
  intro m vs H
  cases m
  ·exact ih (m:=false) H
  ·obtain⟨cs,h1,h2⟩:=H;exact⟨cs,h1,ih h2⟩
 | cT s ih =>
  intro m vs H
  cases m
  ·exact H.elim
  ·obtain⟨cs,h1,h2⟩:=H;exact⟨cs,h1,ih h2⟩
 | fn f s ih=>intro m vs H;cases m<;>(obtain⟨cs,h1,h2⟩:=H;exact⟨cs,h1,ih h2⟩)
 | val v=>intro m vs H;exact hkeep _ _ _ rfl H
 | bad=>intro m vs H;exact hkeep _ _ _ rfl H
 | bE z=>intro m vs H;exact hkeep _ _ _ rfl H
 | cut z=>intro m vs H;exact hkeep _ _ _ rfl H
 | cA z s ex=>intro m vs H;exact hkeep _ _ _ rfl H
 | fP d=>intro m vs H;exact hkeep _ _ _ rfl H
 | nil=>intro m vs H;exact hkeep _ _ _ rfl H
theorem Pa{w:World}{I:Nat→Prop}{F F':List G}{k N:Nat}{q:Path}{g:G}(hg:F[k]? = some g)(hok:g.dU q=true)(hh:aW (g.at_ q)=true)(hN:F'[N]? = some (g.at_ q))
  (hkeep:∀av m vs,av.dZ [(k,q)]=false→Rl w.heap I F av m vs→Rl w.heap I F' av m vs) {v:Value} (hk:F'[k]? = some (g.set q (.aH v))) (ho:∀j f,F[j]? = some f→j≠k→F'[j]? = some f) :
  ∀{pl:List (Nat×Path×AV)},dS pl w I F→dS (cJ k q N pl) w I F':=by
 intro pl
 induction pl with
 | nil=>intro _ k p av hm;cases hm
 | cons x l ih =>
  intro H
  have hl:dS l w I F:=fun k p av hm=>H k p av (List.mem_cons_of_mem _ hm)
  have ihl:=ih hl
  obtain⟨k',p,av⟩:=x
  obtain⟨f,u,f1,f2,f3⟩:=H k' p av List.mem_cons_self
  have hav:=KM hg hok hh hN hkeep av f3
  have cons:∀{x:Nat×Path×AV},(∃g v,F'[x.1]? = some g∧g.at_ x.2.1=.aH v∧Rl w.heap I F' x.2.2 false [v])→dS (x::cJ k q N l) w I F':=fun {x} hx k p av hm=>by
   rcases List.mem_cons.1 hm with rfl|hm
   ·exact hx
   ·exact ihl k p av hm
  simp only[cJ]
  split
  ·rename_i e
   subst e
   rw[hg] at f1;cases f1
   split
   ·rename_i r hs
    have hp:=nC hs
    subst hp
    rw[T.cY] at f2
    exact cons ⟨_,u,hN,f2,hav⟩
   ·cases hd:dead [(k',q)] k' p true with
    | true=>exact ihl
    | false=>exact cons ⟨_,u,hk,T.pJ hok f2 (ki hd),hav⟩
  ·rename_i e
   exact cons ⟨f,u,ho k' f f1 e,f2,hav⟩
theorem BN{α:Type}{g:T α}(h:isNode g=true):aW g=true:=by
 cases g<;>first|rfl|cases h
theorem Rel.lift{c:Cx}{st:St}{a:Act}{w:World}(h:Rel c st a w){k:Nat}{q:Path}(hlen:k<st.X.length)(hok:(st.tree k).dU q=true)(hn:isNode ((st.tree k).at_ q)=true)
  (hne:T.noEntry true (st.tree k) q=true):Rel c (st.lift c.F0.length k q) a w:=by
 obtain⟨h1,h2,I,F,hi,he,hp⟩:=id h
 obtain⟨F',g1,g2,g3,g4,g6,g5⟩:=(h.jK hlen hok hn hne).2 I F hi he hp
 have yd:F.length=st.X.length:=by rw[←hi.erase];simp
 obtain⟨g,hg⟩:∃g,F[k]? = some g:=⟨F[k]'(by omega),List.getElem?_eq_getElem (by omega)⟩
 obtain⟨hN,v,hv,uA,hk⟩:=g4 g hg
 have ht:=hi.tree hg
 have qD:=hok
 have hn':=hn
 rw[ht,T.gL] at qD
 rw[ht,←T.bJ,sW] at hn'
 have hh:aW (g.at_ q)=true:=BN hn'
 have hH:=(hi.holds g (List.mem_of_getElem? hg)).at_ q
 refine⟨h1,h2,I,F',g1,fun t=>?_,?_⟩
 ·have key:∀e:Env,look (e.map fun e=>(e.1,e.2.lift k q st.X.length)) t=(look e t).lift k q st.X.length:=by
   intro e
   induction e with
   | nil=>rfl
   | cons x e ih =>
    obtain⟨d,b⟩:=x
    simp only[List.map_cons,look]
    split
    ·rfl
    ·exact ih
  show Rl _ _ _ (look (st.env.map _) t) true _
  rw[key]
  exact KM hg qD hh hN g5 _ (he t)
 ·have Qi:=Pa hg qD hh hN g5 hk g6 hp
  intro k' p av hm
  rcases List.mem_cons.1 hm with e|hm
  ·cases e
   refine⟨_,v,hk,T.gF qD,?_⟩
   rw[ht,←T.bJ]
   cases hx:g.at_ q with
   | sl o a' z s =>
    rw[hx] at hv hH hN
    simp only[T.cells,List.cons.injEq,and_true] at hv
    subst hv
    refine⟨o,a',z,s.len,a',?_,rfl,?_⟩
    ·simp[bM,hN,T.at_,cM]
    ·simp only[T.erase,dV,T.cX];exact nY hH (.inl (by rw[hx] at hn';cases o<;>simp[isNode] at hn' ⊢))
   | box o a' s =>
    rw[hx] at hv hH hN
    simp only[T.cells,List.cons.injEq,and_true] at hv
    subst hv
    obtain⟨_,_,H3⟩:=hH
    split at H3
    ·rename_i x
     obtain⟨e1,_⟩:=H3
     obtain⟨b,o2,sp⟩:=x
     simp only at e1;subst e1
     exact⟨b,o2,by simp[dF,hN,T.loc,T.bQ],rfl⟩
    ·exact H3.elim
   | map o a' s =>
    rw[hx] at hv hH hN
    simp only[T.cells,List.cons.injEq,and_true] at hv
    subst hv
    obtain⟨_,_,H3⟩:=hH
    split at H3
    ·exact⟨o,_,0,0,by simp[bM,hN,T.at_,cM],rfl⟩
    ·exact H3.elim
   | _=>rw[hx] at hn';cases hn'
  ·exact Qi k' p av hm
theorem VC.lift{c:Cx}{code:Code}{K:Exit→St→Prop}{st:St}(k:Nat)(q:Path)(hlen:k<st.X.length)(hok:(st.tree k).dU q=true)(hn:isNode ((st.tree k).at_ q)=true)
  (hne:T.noEntry true (st.tree k) q=true) (h:VC c code K (st.lift c.F0.length k q)):VC c code K st :=
 VC.ghost (fun _ _ hr=>hr.lift hlen hok hn hne) h
theorem jo.growBy{c:Cx}{X:List D}{κ:List (Nat×Path)}{w:World}{I:Nat→Prop}{F:List G}(hi:Inv c X κ w I F){g:G}(hg:T.Holds w.heap I g)(ho:g.owned=[]):jo w w I I F (F++[g]) [] c.F0.length where
 holds:=fun g' hg'=>by
  rcases List.mem_append.1 hg' with h|h
  ·exact hi.holds g' h
  ·simp only[List.mem_singleton] at h;subst h;exact hg
 nodup:=by simpa[own,ho] using hi.nodup
 apart:=fun b hb=>hi.apart b (by simpa[own,ho] using hb)
 mine:=fun b hb=>.inl (by simpa[own,ho] using hb)
 lt:=fun b hb=>hi.lt b (by simpa[own,ho] using hb)
 ic:=hi.ic
 heap:=fun _ _ _=>rfl
 size:=Nat.le_refl _
 os:=rfl
 tape:=rfl
 output:=rfl
 ek:=fun _ h=>h
 gY:=fun _ h=>.inl h
 keep:=fun k g hg=>⟨g,by rw[List.getElem?_append_left (List.getElem?_eq_some_iff.1 hg).1];exact hg,fun _=>rfl,fun _ _=>rfl,fun _ _=>rfl,fun _ _ h _=>h⟩
def kZ:AV→Bool
 | .bE _=>true
 | .sub _ _ _ 0 true=>true
 | _=>false
def St.eT (st:St) (t:Tmp) (z:Nat):St:={ st with env:=(t,.sub st.X.length [] 0 0 false)::st.env,X:=st.X++[.sl true () z .nil] }
theorem Rel.eT{c:Cx}{st:St}{a:Act}{w:World}(h:Rel c st a w)(t:Tmp)(z:Nat)(ht:kZ (look st.env t)=true):Rel c (st.eT t z) a w:=by
 obtain⟨h1,h2,I,F,hi,he,hp⟩:=h
 have hv:=he t
 obtain⟨A,hA,hsp⟩:∃A,a.tmps.getD t undef=.slice A 0 0∧∀x,A=some x→x.spot=none:=by
  unfold kZ at ht
  split at ht
  ·rename_i z0 hl
   rw[hl] at hv
   have hv:[a.tmps.getD t undef]=[.slice none 0 0]:=hv
   injection hv with hv _
   exact⟨none,hv,fun x h=>by cases h⟩
  ·rename_i k q lo hl
   rw[hl] at hv
   obtain⟨own,a0,z0,len,v,_,Wt,A,c0,rfl,q1,q2,q3,q4,q5⟩:=hv
   injection Wt with Wt _
   have:=q4 rfl
   subst this
   refine⟨A,Wt,fun x hx=>?_⟩
   split at q5
   ·rw[q5.1] at hx;cases hx
   ·obtain⟨y,hy,hs,_⟩:=q5
    rw[hy] at hx;cases hx;exact hs
   ·exact q5.elim
  ·cases ht
 have hg:T.Holds w.heap I (.sl true (.slice A 0 0) z .nil):=by
  cases A with
  | none=>exact⟨trivial,trivial,(by intro h;cases h),rfl,rfl,rfl⟩
  | some x=>exact⟨trivial,trivial,(by intro h;cases h),rfl,fun _=>hsp x rfl,rfl⟩
 have S:=jo.growBy hi hg (by cases A<;>rfl)
 have yd:F.length=st.X.length:=by rw[←hi.erase];simp
 refine⟨h1,h2,I,F++[.sl true (.slice A 0 0) z .nil],?_,fun t'=>?_,?_⟩
 ·have:=hi.step S
  rw[List.map_append,hi.erase] at this
  simpa[St.eT,T.erase] using this
 ·show Rl _ _ _ (look ((t,_)::st.env) t') true _
  simp only[look]
  split
  ·rename_i e
   subst e
   rw[hA]
   refine⟨true,.slice A 0 0,z,0,_,by simp[bM,←yd,T.at_,cM,T.len],rfl,A,0,rfl,by omega,by omega,by omega,fun _=>rfl,?_⟩
   cases A with
   | none=>exact⟨rfl,rfl⟩
   | some x=>exact⟨x,rfl,hsp x rfl,rfl,by omega,by omega,fun h=>by omega⟩
  ·have:=he.step hi S t'
   rw[AV.zC] at this
   exact this
 ·have:=hp.step hi S
  have hk:dK [] st.pl=st.pl:=by
   unfold dK
   rw[List.filter_eq_self]
   intro e _
   simp[dead,AV.ja]
  rw[hk] at this
  exact this
theorem VC.eT{c:Cx}{code:Code}{K:Exit→St→Prop}{st:St}(t:Tmp)(z:Nat)(ht:kZ (look st.env t)=true)(h:VC c code K (st.eT t z)):VC c code K st :=
 VC.ghost (fun _ _ hr=>hr.eT t z ht) h
attribute [simp] kZ St.eT
attribute [simp] aa cK AV.lift dV cJ St.lift isNode aW St.after back Hu AV.kO og eU AV.fH
end Go.Vc

namespace Go.Vc
set_option linter.all false
@[simp] theorem Vp{α:Type}(h t:T α)(n:Nat):(T.cons h t).mid 0 (n+1)=.cons h (t.mid 0 n):=by cases t<;>simp[T.mid,T.drop,T.take]
@[simp] theorem Vq{α:Type}(h t:T α)(lo n:Nat):(T.cons h t).mid (lo+1) n=t.mid lo n:=by simp[T.mid,T.drop]
@[simp] theorem afr{α:Type}(lo n:Nat):(T.nil:T α).mid lo n=.nil:=by cases lo<;>cases n<;>rfl
end Go.Vc

namespace Go.Vc
set_option linter.all false
def VS (c:Cx):List Code→(Exit→St→Prop)→St→Prop
 | [],K,st=>K .normal st
 | x::l,K,st=>VC c x (eN (VS c l K) K) st
def jd (id:Nat) (N:St→Prop) (K:Exit→St→Prop):Exit→St→Prop
 | .normal,st=>N st
 | .exit j,st=>if j=id then N st else K (.exit j) st
 | e,st=>K e st
def DY (nb:Nat) (J:Nat→St→Prop) (n:Nat) (K:Exit→St→Prop):Exit→St→Prop
 | .normal,st=>aO nb J n st
 | e,st=>K e st
section
variable {c:Cx} {l:List Code} {K:Exit→St→Prop} {st:St}
theorem VS.nil(h:K .normal st):VS c [] K st:=h
theorem VS.seq{a b:Code}(h:VS c (a::b::l) K st):VS c (.seq a b::l) K st :=
 VC.seq (VC.mono h fun e st' hk=>by
  cases e with
  | normal=>exact hk
  | _=>exact hk)
theorem VS.skip(h:VS c l K st):VS c (.skip::l) K st:=VC.skip h
theorem VS.ret(h:K .ret st):VS c (.ret::l) K st:=VC.ret h
theorem VS.exit{i:Nat}(h:K (.exit i) st):VS c (.exit i::l) K st:=VC.exit h
theorem VS.region{τ:bg}(hτ:bg.Ok c.P τ){id:Nat}{ops:List Oper}(gs:List (Nat×Tmp))(hd:kE c.nt ops gs=true)(h:eL c τ gs ops 0 st (VS c l K)):VS c (.region id ops.toArray false::l) K st :=
 VC.region hτ gs hd h
theorem VS.drawn{P:Program}{nt:Nat}{w0:World}{I0:Nat→Prop}{F0:List G}{τ:bg}(hτ:bg.Ok P τ)(hm:P.follows .mixedOrders=true){id:Nat}{ops:List Oper}(gs:List (Nat×Tmp))(T:List Rw)(p:bY)(o:OP)
  (hT:ops.map (rowOf ops.toArray)=T) (hok:gm 0 nt ops gs T p=true) (ho:lH 0 p=o) (h:cg ⟨P,nt,w0,I0,F0⟩ τ gs ops o st (VS ⟨P,nt,w0,I0,F0⟩ l K)):VS ⟨P,nt,w0,I0,F0⟩ (.region id ops.toArray true::l) K st :=
 VC.drawn hτ hm gs T p o hT hok ho h
theorem VS.tY{P:Program}{nt:Nat}{w0:World}{I0:Nat→Prop}{F0:List G}{τ:bg}(hτ:bg.Ok P τ)(hm:P.follows .mixedOrders=true){id:Nat}{ops:List Oper}(EM:Nat)(gs:List (Nat×Tmp))(T:List Rw)(p:bY)(o:OP)
  (hT:ops.map (rowOf ops.toArray)=T) (hok:gm EM nt ops gs T p=true) (ho:lH EM p=o) (h:cg ⟨P,nt,w0,I0,F0⟩ τ gs ops o st (VS ⟨P,nt,w0,I0,F0⟩ l K)):VS ⟨P,nt,w0,I0,F0⟩ (.region id ops.toArray true::l) K st :=
 VC.tY hτ hm EM gs T p o hT hok ho h
theorem VS.cond{x:Operand}{t f:Code}(h:lT (st.ev x) (VS c (t::l) K st) (VS c (f::l) K st)):VS c (.cond x t f::l) K st:=VC.cond h
theorem VS.block{id:Nat}{x:Code}(h:VS c [x] (jd id (VS c l K) K) st):VS c (.block id x::l) K st :=
 VC.block (VC.mono h fun e st' hk=>by
  cases e with
  | exit j =>
   simp only[eN,jd,mJ] at hk ⊢
   split
   ·rename_i h;rw[if_pos h] at hk;exact hk
   ·rename_i h;rw[if_neg h] at hk;exact hk
  | _=>exact hk)
theorem VS.rounds{x:Code}(J:Nat→St→Prop)(h0:∃n,J n st)(hr:∀n st,J n st→VS c [x] (DY c.F0.length J n K) st):VS c (.loop x::l) K st :=
 VC.rounds J h0 fun n st' hJ=>VC.mono (hr n st' hJ) fun e i7 hk=>by
  cases e with
  | normal=>exact hk
  | _=>exact hk
theorem VS.ghost{x:Code}{st':St}(hg:∀a w,Rel c st a w→Rel c st' a w)(h:VS c (x::l) K st'):VS c (x::l) K st:=VC.ghost hg h
theorem VS.pick{x:Code}(ts:List Tmp)(cw:List Nat)(hs:iF c.F0.length st.X.length cw=true)(h:VS c (x::l) K (st.pick ts cw)):VS c (x::l) K st:=VC.pick ts cw hs h
theorem VS.lp{x:Code}(κ':List (Nat×Path))(h:st.κ.all (aa κ')=true)(hv:VS c (x::l) K { st with κ:=κ' }):VS c (x::l) K st:=VC.lp κ' h hv
def St.keep (st:St) (ts:List Tmp):St:={ st with env:=ts.map fun t=>(t,look st.env t) }
theorem qi(e:Env)(t:Tmp):∀ts:List Tmp,look (ts.map fun t=>(t,look e t)) t=.bad∨look (ts.map fun t=>(t,look e t)) t=look e t
 | []=>.inl rfl
 | u::ts=>by
  simp only[List.map_cons,look]
  split
  ·rename_i h;subst h;exact .inr rfl
  ·exact qi e t ts
theorem VS.keep{x:Code}(ts:List Tmp)(h:VS c (x::l) K (st.keep ts)):VS c (x::l) K st :=
 VS.ghost (st':=st.keep ts) (fun a w ⟨h1,h2,I,F,hi,he,hp⟩=>⟨h1,h2,I,F,hi,fun t=>by
  rcases qi st.env t ts with h'|h'
  ·show Rl _ _ _ (look (ts.map _) t) true _
   rw[h'];exact wT
  ·show Rl _ _ _ (look (ts.map _) t) true _
   rw[h'];exact he t,hp⟩) h
theorem VS.tW(id:Nat){ops:Array Oper}{d:Bool}(ts:List Tmp)(h:VS c (.region id ops d::l) K (st.keep ts)):VS c (.region id ops d::l) K st:=VS.keep ts h
theorem VS.eT{x:Code}(t:Tmp)(z:Nat)(ht:kZ (look st.env t)=true)(h:VS c (x::l) K (st.eT t z)):VS c (x::l) K st:=VC.eT t z ht h
theorem VS.lift{x:Code}(k:Nat)(q:Path)(hlen:k<st.X.length)(hok:(st.tree k).dU q=true)(hn:isNode ((st.tree k).at_ q)=true)(hne:T.noEntry true (st.tree k) q=true)(h:VS c (x::l) K (st.lift c.F0.length k q)):VS c (x::l) K st :=
 VC.lift k q hlen hok hn hne h
variable {id:Nat} {N:St→Prop} {nb n:Nat} {J:Nat→St→Prop}
theorem JG(h:N st):jd id N K (.exit id) st:=by simpa[jd] using h
theorem Fq{j:Nat}(hj:j≠id)(h:K (.exit j) st):jd id N K (.exit j) st:=by simpa[jd,hj] using h
end
def ak (nb:Nat) (τ:bg) (rs:List ResultVar) (R:AV→List D→List (Nat×Path)→Prop) (e:Exit) (st:St):Prop :=
 ∃ts cw κ',iF nb st.X.length cw=true∧st.κ.all (aa κ')=true∧an τ rs R e { st.pick ts cw with κ:=κ' }
theorem ak.of{nb:Nat}{τ:bg}{rs:List ResultVar}{R:AV→List D→List (Nat×Path)→Prop}{e:Exit}{st:St}(ts:List Tmp)(cw:List Nat)(κ':List (Nat×Path))(h1:iF nb st.X.length cw=true)(h2:st.κ.all (aa κ')=true)
  (h:an τ rs R e { st.pick ts cw with κ:=κ' }):ak nb τ rs R e st:=⟨ts,cw,κ',h1,h2,h⟩
theorem VC.mono'{c:Cx}{code:Code}{K K':Exit→St→Prop}{st:St}(h:VC c code K st)(hk:∀e st a w,K e st→Rel c st a w→∃st',K' e st'∧Rel c st' a w):VC c code K' st :=
 fun a w hr=>wp_mono (h a w hr) fun _ _ _ ⟨_,h1,h2⟩=>hk _ _ _ _ h1 h2
theorem ai.Dn{P:Program}{τ:bg}(hτ:bg.Ok P τ){f:FuncId}{fn:Func}{body:Code}{Y:List D}{args:AV}{R:AV→List D→List (Nat×Path)→Prop}
  (hf:P.funcs[f]? = some fn) (hb:fn.body=some body) (hname:(fn.name == "runtime.NumGoroutine")=false) {nt:Nat} (hnt:fn.ntmps=nt) {rs:List ResultVar} (wq:fn.results.toList=rs)
  (hl:args.gT=true) (hlen:args.len≤nt) {st:St} (hst:⟨fG 0 args,Y,[],[]⟩=st)
  (h:∀w0 I0 F0,F0.length=Y.length→VS ⟨P,nt,w0,I0,F0⟩ [body] (ak Y.length τ rs R) st):ai P f Y args R :=
 ai.Kr hτ hf hb hname hnt wq hl hlen fun w0 I0 F0 hF=>by
  subst hst
  refine VC.mono' (h w0 I0 F0 hF) fun e st' a w hk hr=>?_
  have key:ak Y.length τ rs R e st'→∃i7,an τ rs R e i7∧Rel ⟨P,nt,w0,I0,F0⟩ i7 a w:=fun ⟨ts,cw,κ',h1,h2,h3⟩ =>
   have ⟨g1,g2,I,F,hi,he,hp⟩:=hr.pick ts (cw:=cw) (by rw[←hF] at h1;exact h1)
   ⟨_,h3,g1,g2,I,F,hi.iY (κ':=κ') (fun _ _ _ _ hd=>iE (by simpa[St.pick] using h2) hd),he,hp⟩
  cases e with
  | normal=>exact key hk
  | ret=>exact key hk
  | _=>exact key hk
attribute [irreducible] VS
end Go.Vc

namespace Go.Vc
set_option linter.all false
@[simp] theorem pV{α:Type}(s x y:T α)(k:Nat):(s.br k x).br k y=s.br k y:=by
 induction s generalizing k with
 | cons a t _ bO=>cases k with
  | zero=>rfl
  | succ k=>simp[T.br,bO]
 | _=>cases k<;>rfl
attribute [simp] T.bS
@[simp] theorem abB(l:List Int)(n:Int):(aj (l++[n])).mid 0 (l.length+1)=aj (l++[n]):=aV _ _ (by simp)
@[simp] theorem abC(l:List ByteArray)(n:ByteArray):(ko (l++[n])).mid 0 (l.length+1)=ko (l++[n]):=aV _ _ (by simp)
theorem Rk(s u:ByteArray):(s==u)=decide (s=u):=by
 rw[Bool.eq_iff_iff]
 rcases s with ⟨a⟩;rcases u with ⟨b⟩
 show (a==b)=true↔_
 simp
def Pb:=@posOf.eq_1
def Pc:=@posOf.eq_2
def JH:=@AV.BI.eq_1
def JI:=@AV.BI.eq_2
def JJ:=@AV.BI.eq_3
def JK:=@AV.BI.eq_4
def JL:=@AV.BI.eq_5
def JM:=@AV.BI.eq_6
def JN:=@AV.BI.eq_7
def JO:=@AV.BI.eq_8
def BO:=@AV.whole.eq_1
def BP:=@AV.whole.eq_2
def BQ:=@AV.whole.eq_3
def BR:=@AV.whole.eq_4
def BS:=@AV.whole.eq_5
def BT:=@AV.whole.eq_6
def BU:=@AV.whole.eq_7
def BV:=@AV.whole.eq_8
def Fs:=@AV.O3.eq_1
def Ft:=@St.pick.eq_1
def Pd:=@iF.eq_1
def Pe:=@Ye
def JP:=@UM
def Fu:=@O9
def BW:=@St.after.eq_1
def UN:=@back.eq_1
def UO:=@back.eq_2
def UP:=@Hu.eq_1
def JQ:=@AV.kO.eq_1
def JR:=@AV.kO.eq_2
def JS:=@AV.kO.eq_3
def JT:=@AV.kO.eq_4
def JU:=@AV.kO.eq_5
def JV:=@AV.kO.eq_6
def JW:=@AV.kO.eq_7
def JX:=@AV.kO.eq_8
def UQ:=@og.eq_1
def BX:=@eU.eq_1
def BY:=@eU.eq_2
def BZ:=@eU.eq_3
def B0:=@AV.fH.eq_1
def B1:=@AV.fH.eq_2
def B3:=@AV.fH.eq_3
def B4:=@AV.fH.eq_4
def B5:=@AV.fH.eq_5
def B6:=@AV.fH.eq_6
def B7:=@AV.fH.eq_7
def B8:=@AV.fH.eq_8
def Fv:=@St.keep.eq_1
attribute [simp] Pb Pc JH JI JJ JK JL JM JN JO BO BP
attribute [simp] BQ BR BS BT BU BV Fs Ft Pd Pe JP
attribute [simp] Fu BW UN UO UP JQ JR JS JT JU JV JW
attribute [simp] JX UQ BX BY BZ B0 B1
attribute [simp] B3 B4 B5 B6 B7 B8 Fv
theorem Yf{α:Type}(o:Bool)(a:α)(z:Nat)(s:T α):aW (.sl o a z s)=true:=by rw[aW]
theorem UR{α:Type}(o:Bool)(a:α)(s:T α):aW (.box o a s)=true:=by rw[aW]
theorem head_map{α:Type}(o:Bool)(a:α)(s:T α):aW (.map o a s)=true:=by rw[aW]
attribute [simp] Yf UR head_map
end Go.Vc

namespace Go.Vc
set_option linter.all false
open Go.RowKit (Below)
theorem ai.law{P:Program}{f:FuncId}{args:AV}(h:ai P f [] args fun av _ _=>av=.val (.bool true)){w:World}{I:Nat→Prop}{vs:List Value}(hil:∀b,I b→b<w.heap.size)
  (hx:Rl w.heap I [] args true vs):Calls P f vs.toArray w fun e w'=>e=.returned (.bool true)∧Below w.heap.size w w':=by
 refine Calls.mono (h.2 w I [] vs rfl (by simp) (by simp[own]) (by simp[own]) (by simp[own]) hil hx) fun e w' he=>?_
 obtain⟨v,av,X,κ,I',F',rfl,rfl,hi,hr⟩:=he
 obtain⟨hv,_⟩:=hr
 injection hv with hv _
 subst hv
 exact⟨rfl,hi.os,hi.tape,hi.output,hi.size,fun b hb=>hi.frame b hb (by simp[own])⟩
theorem ai.mono{P:Program}{f:FuncId}{Y:List D}{args:AV}{R R':AV→List D→List (Nat×Path)→Prop}(h:ai P f Y args R)(hr:∀av X κ,R av X κ→R' av X κ):ai P f Y args R' :=
 ⟨h.1,fun w I F0 vs h1 h2 h3 h4 h5 h6 h7=>Calls.mono (h.2 w I F0 vs h1 h2 h3 h4 h5 h6 h7) fun _ _ ⟨v,av,X,κ,I',F',e1,e2,e3,e4⟩=>⟨v,av,X,κ,I',F',e1,hr _ _ _ e2,e3,e4⟩⟩
theorem US{gs:List (Nat×Tmp)}{i:Nat}{dst:Option Tmp}{st:St}{K:St→Prop}:eO gs i dst (.val (.bool true)) st K=K (st.put dst (.val (.bool true))):=by
 unfold eO;split<;>simp_all
theorem Pf{gs:List (Nat×Tmp)}{i:Nat}{dst:Option Tmp}{st:St}{K:St→Prop}:eO gs i dst (.val (.bool false)) st K=K (st.put dst (.val (.bool false))):=by
 unfold eO;split<;>simp_all
def JY:=@US
def Fw:=@Pf
attribute [simp high] JY Fw
def uj:=@xI
def xJ:=@om.eq_1
def xK:=@BM
theorem JZ(as s:AV)(f:FuncId):sY as (.fn f s)=(as.app s).still:=rfl
def B9:=@JZ
attribute [simp] uj xJ xK B9
section
variable (v:Value) (z k:Nat) (q:Path) (lo n:Nat) (ex:Bool) (s:D) (a t:AV) (f:FuncId)
@[simp] theorem aco:AV.bad.still=true:=rfl
@[simp] theorem acp:(AV.val v).still=true:=rfl
@[simp] theorem abD:(AV.bE z).still=true:=rfl
@[simp] theorem acq:(AV.ptr k q).still=false:=rfl
@[simp] theorem acr:(AV.sub k q lo n ex).still=false:=rfl
@[simp] theorem aeG:(AV.mp k q).still=false:=rfl
@[simp] theorem acs:(AV.cA z s ex).still=true:=rfl
@[simp] theorem abE:(AV.fP s).still=true:=rfl
@[simp] theorem acu:AV.nil.still=true:=rfl
@[simp] theorem abF:(AV.cons a t).still=(a.still&&t.still):=rfl
@[simp] theorem acv:(AV.agg a).still=a.still:=rfl
@[simp] theorem acw:(AV.cT a).still=a.still:=rfl
@[simp] theorem aeH:(AV.fn f a).still=a.still:=rfl
end
@[simp] theorem Zk(k:Nat)(q:Path)(lo:Nat):om (.sub k q lo 0 true)=true:=rfl
@[simp] theorem abG{P:Nat→Prop}:(∀x,x<2→P x)↔P 0∧P 1:=⟨fun h=>⟨h 0 (by omega),h 1 (by omega)⟩,fun ⟨h0,h1⟩ x hx=>by
 match x,hx with
 | 0,_=>exact h0
 | 1,_=>exact h1⟩
@[simp] theorem Yg{P:Nat→Prop}:(∀x,x<3→P x)↔P 0∧P 1∧P 2:=⟨fun h=>⟨h 0 (by omega),h 1 (by omega),h 2 (by omega)⟩,fun ⟨h0,h1,h2⟩ x hx=>by
 match x,hx with
 | 0,_=>exact h0
 | 1,_=>exact h1
 | 2,_=>exact h2⟩
@[simp] theorem Zl{P:Nat→Prop}:(∀x,x<4→P x)↔P 0∧P 1∧P 2∧P 3:=⟨fun h=>⟨h 0 (by omega),h 1 (by omega),h 2 (by omega),h 3 (by omega)⟩,fun ⟨h0,h1,h2,h3⟩ x hx=>by
 match x,hx with
 | 0,_=>exact h0
 | 1,_=>exact h1
 | 2,_=>exact h2
 | 3,_=>exact h3⟩
end Go.Vc

namespace Go.Vc
set_option linter.all false
open T (cM blk)
namespace T
variable {α:Type}
def freeze:T α→T α
 | .val v=>.val v
 | .aH a=>.aH a
 | .nil=>.nil
 | .cons h t=>.cons h.freeze t.freeze
 | .agg s=>.agg s.freeze
 | .sl _ a z s=>.sl false a z s.freeze
 | .box _ a g=>.box false a g.freeze
 | .map _ a s=>.map false a s.freeze
def di:T α→Bool
 | .cons h t=>h.di&&t.di
 | .agg s=>s.di
 | .sl o _ _ s=>o&&s.di
 | .box o _ g=>o&&g.di
 | .map o _ s=>o&&s.di
 | _=>true
theorem kq(g:T α):g.freeze.free=true:=by
 induction g with
 | cons h t Cm bO=>simp[freeze,free,Cm,bO]
 | agg s ih=>simpa[freeze,free] using ih
 | sl o a z s ih=>simpa[freeze,free] using ih
 | box o a s ih=>simpa[freeze,free] using ih
 | map o a s ih=>simpa[freeze,free] using ih
 | _=>rfl
theorem kR(g:G):g.freeze.erase=g.erase.freeze:=by
 induction g with
 | cons h t Cm bO=>simp[freeze,erase,Cm,bO]
 | agg s ih=>simp[freeze,erase,ih]
 | sl o a z s ih=>simp[freeze,erase,ih]
 | box o a s ih=>simp[freeze,erase,ih]
 | map o a s ih=>simp[freeze,erase,ih]
 | _=>rfl
theorem tf(g:T α):g.freeze.width=g.width:=by
 induction g with
 | cons h t Cm bO=>simp[freeze,width,Cm,bO]
 | agg s ih=>simpa[freeze,width] using ih
 | _=>rfl
theorem J0(g:T α):g.freeze.len=g.len:=by
 induction g with
 | cons h t Cm bO=>simp[freeze,len,bO]
 | _=>rfl
theorem jk(g:G):g.freeze.cells=g.cells:=by
 induction g with
 | cons h t Cm bO=>simp[freeze,cells,Cm,bO]
 | agg s ih=>simpa[freeze,cells] using ih
 | _=>rfl
theorem J1{z:Nat}{g:T α}(h:g.nQ z):g.freeze.nQ z:=by
 induction g with
 | cons a t _ bO=>exact⟨by rw[tf];exact h.1,bO h.2⟩
 | nil=>trivial
 | _=>exact h.elim
theorem uT(g:G):gM g.freeze=gM g:=by cases g<;>rfl
theorem Ca(g:G):g.erase.di=g.di:=by
 induction g with
 | cons h t Cm bO=>simp[erase,di,Cm,bO]
 | agg s ih=>simpa[erase,di] using ih
 | sl o a z s ih=>simp[erase,di,ih]
 | box o a s ih=>simp[erase,di,ih]
 | map o a s ih=>simp[erase,di,ih]
 | _=>rfl
theorem J2{α:Type}(l:List Value):(FN l:T α).freeze=FN l:=by
 induction l with
 | nil=>rfl
 | cons v l ih=>simp[FN,freeze,ih]
theorem Fy{α:Type}(v:Value):(gi v:T α).freeze=gi v:=by
 rcases k7 (α:=α) v with ⟨x,rfl,e1⟩|⟨n1,e1⟩
 ·rw[e1];simp only[freeze,J2]
 ·rw[e1];rfl
theorem xL{g:G}:∀{es:List MapEntry},aD es g→aD es g.freeze:=by
 induction g with
 | cons h t _ bO =>
  intro es H
  cases es with
  | nil=>exact H.elim
  | cons e es =>
   unfold aD at H
   split at H
   ·rename_i abH aeK;cases abH
   ·rename_i abH aeK
    cases abH;cases aeK
    obtain⟨h1,h2,h3⟩:=H
    simp only[freeze,aD]
    exact⟨by rw[h1,Fy],by rw[jk,uT];exact h2,bO h3⟩
   ·exact H.elim
 | nil=>intro es H;cases es<;>exact H
 | _=>intro es H;cases es<;>exact H.elim
theorem Holds.freeze{h:Array Obj}{I I':Nat→Prop}{g:G}(H:Holds h I g)(hI:∀b,I b→I' b)(ho:∀b∈g.owned,I' b):Holds h I' g.freeze:=by
 induction g with
 | val v=>exact H
 | aH a=>exact H
 | nil=>trivial
 | cons x t Xt bO=>exact⟨Xt H.1 fun b hb=>ho b (by simp[owned,hb]),bO H.2 fun b hb=>ho b (by simp[owned,hb])⟩
 | agg s ih=>exact ih H fun b hb=>ho b (by simpa[owned] using hb)
 | sl own a z s ih =>
  obtain⟨h1,h2,h3,h4⟩:=H
  have hs:∀b∈s.owned,I' b:=fun b hb=>by
   cases own
   ·rw[cG (h3 rfl)] at hb;cases hb
   ·exact ho b (by simp[owned,hb])
  refine⟨ih h1 hs,J1 h2,fun _=>kq s,?_⟩
  rw[J0,jk]
  split at h4
  ·exact h4
  ·exact⟨h4.1,(fun h=>by cases h),h4.2.2⟩
  ·rename_i x n c
   obtain⟨g1,g2,g3,g4,g5,row,e,fr,g6,gf,g7⟩:=h4
   refine⟨g1,g2,g3,g4,fun _=>?_,row,e,fr,g6,(fun h=>by cases h),g7⟩
   cases own
   ·exact hI _ (g5 rfl)
   ·exact ho _ (by simp[owned,blk])
  ·exact h4.elim
 | box own a g ih =>
  obtain⟨h1,h3,h4⟩:=H
  have hs:∀b∈g.owned,I' b:=fun b hb=>by
   cases own
   ·rw[cG (h3 rfl)] at hb;cases hb
   ·exact ho b (by simp[owned,hb])
  refine⟨ih h1 hs,fun _=>kq g,?_⟩
  rw[jk]
  split at h4
  ·rename_i x
   obtain⟨g1,g5,gz,g6⟩:=h4
   refine⟨g1,fun _=>?_,(fun h=>by cases h),g6⟩
   cases own
   ·exact hI _ (g5 rfl)
   ·exact ho _ (by simp[owned,blk])
  ·exact h4.elim
 | map own a s ih =>
  obtain⟨h1,h3,h4⟩:=H
  have hs:∀b∈s.owned,I' b:=fun b hb=>by
   cases own
   ·rw[cG (h3 rfl)] at hb;cases hb
   ·exact ho b (by simp[owned,hb])
  refine⟨ih h1 hs,fun _=>kq s,?_⟩
  split at h4
  ·rename_i r
   obtain⟨g5,es,c,g6,g7,g8⟩:=h4
   refine⟨fun _=>?_,es,c,g6,xL g7,g8⟩
   cases own
   ·exact hI _ (g5 rfl)
   ·exact ho _ (by simp[owned,blk])
  ·exact h4.elim
theorem Holds.own{h:Array Obj}{I I':Nat→Prop}{g:G}(H:Holds h I g)(ho:g.di=true):Holds h I' g:=by
 induction g with
 | val v=>exact H
 | aH a=>exact H
 | nil=>trivial
 | cons x t Xt bO =>
  simp only[di,Bool.and_eq_true] at ho
  exact⟨Xt H.1 ho.1,bO H.2 ho.2⟩
 | agg s ih=>exact ih H ho
 | sl own a z s ih =>
  simp only[di,Bool.and_eq_true] at ho
  obtain⟨rfl,ho⟩:=ho
  obtain⟨h1,h2,h3,h4⟩:=H
  refine⟨ih h1 ho,h2,h3,?_⟩
  split at h4
  ·exact h4
  ·exact h4
  ·obtain⟨g1,g2,g3,g4,g5,g6⟩:=h4
   exact⟨g1,g2,g3,g4,(fun h=>by cases h),g6⟩
  ·exact h4.elim
 | box own a g ih =>
  simp only[di,Bool.and_eq_true] at ho
  obtain⟨rfl,ho⟩:=ho
  obtain⟨h1,h3,h4⟩:=H
  refine⟨ih h1 ho,h3,?_⟩
  split at h4
  ·obtain⟨g1,g5,g6⟩:=h4
   exact⟨g1,(fun h=>by cases h),g6⟩
  ·exact h4.elim
 | map own a s ih =>
  simp only[di,Bool.and_eq_true] at ho
  obtain⟨rfl,ho⟩:=ho
  obtain⟨h1,h3,h4⟩:=H
  refine⟨ih h1 ho,h3,?_⟩
  split at h4
  ·obtain⟨g5,g6⟩:=h4
   exact⟨(fun h=>by cases h),g6⟩
  ·exact h4.elim
end T
def AV.plain:AV→Bool
 | .cA _ _ _=>false
 | .fP _=>false
 | .cons a t=>a.plain&&t.plain
 | .agg s=>s.plain
 | .cT s=>s.plain
 | .fn _ s=>s.plain
 | _=>true
theorem Rl.still{h:Array Obj}{I I':Nat→Prop}{F F':List G}{av:AV}{m:Bool}{vs:List Value}(H:Rl h I F av m vs)(hI:∀b,I b→I' b)(ha:av.still=true):Rl h I' F' av m vs:=by
 refine H.agree (fun _ _=>rfl) hI ?_
 clear H
 induction av with
 | cons a t kz bO=>simp only[AV.still,Bool.and_eq_true] at ha;exact⟨kz ha.1,bO ha.2⟩
 | agg s ih=>exact ih ha
 | cT s ih=>exact ih ha
 | fn f s ih=>exact ih ha
 | ptr _ _=>cases ha
 | sub _ _ _ _ _=>cases ha
 | mp _ _=>cases ha
 | _=>trivial
theorem Rl.shift{h:Array Obj}{I I':Nat→Prop}{F:List G}{g0:G}{av:AV}(ha:av.plain=true):∀{m:Bool} {vs:List Value},Rl h I F av m vs→Rl h I' (g0::F) (av.kO [] 1) m vs:=by
 have hk:∀k,og [] 1 k=(k+1,[]):=fun k=>by simp[og];omega
 induction av with
 | bad=>intro m vs H;cases m<;>exact H
 | val v=>intro m vs H;cases m<;>exact H
 | bE z=>intro m vs H;cases m<;>exact H
 | cut z=>intro m vs H;cases m<;>exact H
 | ptr k q =>
  intro m vs H
  have e:(AV.ptr k q).kO [] 1=.ptr (k+1) q:=by simp only[AV.kO,hk,List.nil_append]
  rw[e]
  cases m<;>(obtain⟨b,o,h1,h2⟩:=H;exact⟨b,o,by simpa[dF] using h1,h2⟩)
 | sub k q lo n ex =>
  intro m vs H
  have e:(AV.sub k q lo n ex).kO [] 1=.sub (k+1) q lo n ex:=by simp only[AV.kO,hk,List.nil_append]
  rw[e]
  cases m<;>(obtain⟨own,a,z,len,v,h1,h2⟩:=H;exact⟨own,a,z,len,v,by simpa[bM] using h1,h2⟩)
 | mp k q =>
  intro m vs H
  have e:(AV.mp k q).kO [] 1=.mp (k+1) q:=by simp only[AV.kO,hk,List.nil_append]
  rw[e]
  cases m<;>(obtain⟨own,r,z,len,h1,h2⟩:=H;exact⟨own,r,z,len,by simpa[bM] using h1,h2⟩)
 | cA z s ex=>cases ha
 | fP d=>cases ha
 | nil=>intro m vs H;cases m<;>exact H
 | cons a t kz bO =>
  simp only[AV.plain,Bool.and_eq_true] at ha
  intro m vs H
  cases m
  ·obtain⟨v1,v2,h1,h2,h3⟩:=H
   exact⟨v1,v2,h1,kz ha.1 h2,bO ha.2 h3⟩
  ·obtain⟨v1,v2,h1,h2,h3⟩:=H
   exact⟨v1,v2,h1,kz ha.1 h2,bO ha.2 h3⟩
 | agg s ih =>
  intro m vs H
  cases m
  ·exact ih ha (m:=false) H
  ·obtain⟨cs,h1,h2⟩:=H
   exact⟨cs,h1,ih ha h2⟩
 | cT s ih =>
  intro m vs H
  cases m
  ·exact H
  ·obtain⟨cs,h1,h2⟩:=H
   exact⟨cs,h1,ih ha h2⟩
 | fn f s ih =>
  intro m vs H
  cases m<;>(obtain⟨cs,h1,h2⟩:=H;exact⟨cs,h1,ih ha h2⟩)
end Go.Vc

namespace Go.Vc
set_option linter.all false
open T (cM blk gM j9)
open Go.MapKept (IsKey)
theorem jo.fl{c:Cx}{X:List D}{κ κ0:List (Nat×Path)}{w:World}{I:Nat→Prop}{F F1:List G}{x:G}{cs:List Value}{r:Tk}(hi:Inv c X κ w I F)(L:Laid w.heap I c.F0.length κ0 F F1 x cs r) :
  jo w w I (fun b=>I b∨b∈x.owned) F F1 r.κ c.F0.length where
 holds:=fun g hg=>(L.holds g hg).agree (fun _ _=>rfl) (fun _ _=>rfl) fun _ h=>.inl h
 nodup:=bu fun b=>by
  have h1:=L.count b
  have h2:=aS hi.nodup b
  omega
 apart:=fun b hb hI=>by
  rcases hI with hI|hI
  ·exact hi.apart b (L.AX hb) hI
  ·have h1:=L.count b
   have h2:=aS hi.nodup b
   rw[aq] at hb hI
   omega
 mine:=fun b hb=>.inl (L.AX hb)
 lt:=fun b hb=>hi.lt b (L.AX hb)
 ic:=fun b hb=>hb.elim (hi.ic b) fun h=>hi.lt b (L.AY h)
 heap:=fun _ _ _=>rfl
 size:=Nat.le_refl _
 os:=rfl
 tape:=rfl
 output:=rfl
 ek:=fun _ h=>.inl h
 gY:=fun b h=>h.imp id fun h=>.inl (L.AY h)
 keep:=fun k g hg=>by
  obtain⟨g1,h1,h2⟩:=L.keep.2 k g hg
  refine⟨g1,h1,?_⟩
  rcases h2 with rfl|⟨⟨a,rfl⟩,h3,h4⟩
  ·exact⟨fun _=>rfl,fun _ _=>rfl,fun _ _=>rfl,fun _ _ h _=>h⟩
  ·refine⟨fun h=>by omega,fun q hq=>?_,fun q hq=>?_,fun q v _ hq=>?_⟩
   ·cases q with
    | nil=>simp[T.loc]
    | cons st q=>rw[iD L.keep.1 (by simp),h3] at hq;cases hq
   ·rw[eG L.keep.1,h3] at hq;cases hq
   ·rw[eG L.keep.1,h3] at hq;cases hq
def St.fl (nb:Nat) (st:St) (t:Tmp):St :=
 let r:=(look st.env t).lay nb st.X
 match r.d with
 | .sl _ _ z s=>{ env:=(t,.cA z s.freeze false)::st.env.kill r.κ,X:=r.X,κ:=st.κ,pl:=dK r.κ st.pl }
 | _=>st
def AV.yf:AV→Bool
 | .bE _=>true
 | .sub _ _ _ _ _=>true
 | .cA _ _ _=>true
 | _=>false
theorem Pg{av:AV}(h:av.yf=true):av.eZ=true:=by cases av<;>simp_all[AV.yf,AV.eZ]
theorem J3{h:Array Obj}{I:Nat→Prop}{F:List G}{av:AV}{v:Value}(hs:av.yf=true)(H:Rl h I F av true [v]):j9 v=false:=by
 cases av<;>simp only[AV.yf] at hs<;>try cases hs
 case bE z=>simp only[Rl,List.cons.injEq,and_true] at H;subst H;rfl
 case sub k q lo n ex =>
  obtain⟨_,_,_,_,v',_,h1,_,_,rfl,_⟩:=H
  injection h1 with h1 _
  subst h1;rfl
 case cA z s ex =>
  obtain⟨v',h1,s',_,h2,_⟩:=H
  injection h1 with h1 _
  subst h1
  have:=h2.2.2.2
  cases v<;>first|rfl|exact this.elim
theorem Rel.fl{c:Cx}{st:St}{a:Act}{w:World}(h:Rel c st a w)(t:Tmp)(mu:(look st.env t).yf=true):Rel c (st.fl c.F0.length t) a w:=by
 have hc:=Pg mu
 unfold St.fl
 simp only
 split
 case h_2=>exact h
 rename_i o _ z s hd
 obtain⟨h1,h2,I,F,hi,he,hp⟩:=h
 have hag:=J3 mu (he t)
 obtain⟨F1,x,L,hsq⟩:=wE (nb:=c.F0.length) (F0:=F) (κ0:=[]) hi.holds (eM.refl _ F) ((he t).qu hc)
 rw[hi.erase] at L
 have hb:=fun k q s=>@mY c.F0.length (look st.env t) st.X k q s
 generalize (look st.env t).lay c.F0.length st.X=r at *
 have hx:=L.i4
 rw[hd] at hx
 obtain⟨v,s',rfl,hs⟩:∃v s',x=.sl o v z s'∧s'.erase=s:=by
  cases x<;>simp only[T.erase] at hx<;>cases hx
  exact⟨_,_,rfl,rfl⟩
 have S:=jo.fl hi L
 have hcell:=L.cells
 have hv:[a.tmps.getD t undef]=[v]:=by rw[←kY hag,←hcell];rfl
 refine⟨h1,h2,_,F1,?_,fun t'=>?_,hp.step hi S⟩
 ·have:=(hi.step S).iu hb
  rwa [L.erase] at this
 ·simp only[look]
  split
  ·rename_i e
   subst e
   exact⟨v,hv,s'.freeze,by rw[T.kR,hs],L.lK.freeze (I':=fun b=>I b∨b∈(T.sl o v z s':G).owned) (fun _ h=>.inl h) (fun _ h=>.inr h),fun h=>by cases h⟩
  ·exact he.step hi S t'
theorem VS.fl{c:Cx}{x:Code}{l:List Code}{K:Exit→St→Prop}{st:St}(t:Tmp)(hs:(look st.env t).yf=true)(h:VS c (x::l) K (st.fl c.F0.length t)):VS c (x::l) K st :=
 VS.ghost (fun _ _ hr=>hr.fl t hs) h
def St.er (nb:Nat) (st:St) (k:Nat) (q:Path):St where
 env:=st.env.kill [(k,q)]
 X:=st.X.set k ((st.tree k).set q ((st.tree k).at_ q).freeze)
 κ:=(bif Nat.ble nb k then [] else [(k,q)])++st.κ
 pl:=dK [(k,q)] st.pl
theorem Rel.er{c:Cx}{st:St}{a:Act}{w:World}(h:Rel c st a w){k:Nat}{q:Path}(hlen:k<st.X.length)(hok:(st.tree k).dU q=true)(hne:T.noEntry true (st.tree k) q=true) :
  Rel c (st.er c.F0.length k q) a w:=by
 obtain⟨h1,h2,I,F,hi,he,hp⟩:=h
 have yd:F.length=st.X.length:=by rw[←hi.erase];simp
 obtain⟨g,hg⟩:∃g,F[k]? = some g:=⟨F[k]'(by omega),List.getElem?_eq_getElem (by omega)⟩
 have ht:=hi.tree hg
 rw[ht] at hok hne
 rw[T.gL] at hok
 rw[T.eW] at hne
 have hH:=hi.holds g (List.mem_of_getElem? hg)
 have hc:(g.at_ q).freeze.cells=(g.at_ q).cells:=T.jk _
 have hw:(g.at_ q).freeze.width=(g.at_ q).width:=T.tf _
 have hfo:(g.at_ q).freeze.owned=[]:=T.cG (T.kq _)
 have hII:∀b,I b→I b∨b∈(g.at_ q).owned:=fun _ h=>.inl h
 have dB:T.Holds w.heap (fun b=>I b∨b∈(g.at_ q).owned) (g.set q (g.at_ q).freeze) :=
  T.Holds.sG (I:=I) (x:=(g.at_ q).freeze) ((hH.at_ q).freeze hII fun _ h=>.inr h) (fun _ _=>rfl) hII hH hok hne hc (fun _=>T.uT _) (fun _ _=>rfl)
 have hcr:=fun b=>T.eF hok b
 have mK:∀b,(own (F.set k (g.set q (g.at_ q).freeze))).count b+(g.at_ q).owned.count b=(own F).count b:=fun b=>by
  have h2:=cQ hg (g.set q (g.at_ q).freeze) b
  have h3:=(hcr b).1
  have h4:=(hcr b).2 (g.at_ q).freeze
  rw[hfo,List.count_nil] at h4
  omega
 have hmem:∀b,b∈own (F.set k (g.set q (g.at_ q).freeze))→b∈own F:=fun b hb=>by
  have:=mK b
  rw[aq] at *;omega
 have Zn:∀b,b∈(g.at_ q).owned→b∈own F:=fun b hb=>by
  have:=mK b
  rw[aq] at *;omega
 obtain⟨k1,k2,k3⟩:=wF (k:=k) hw hok
 have mc:k<F.length:=by omega
 have S:jo w w I (fun b=>I b∨b∈(g.at_ q).owned) F (F.set k (g.set q (g.at_ q).freeze)) [(k,q)] c.F0.length:={
  holds:=fun g' hg'=>by
   rcases List.mem_or_eq_of_mem_set hg' with h'|h'
   ·exact(hi.holds _ h').agree (fun _ _=>rfl) (fun _ _=>rfl) hII
   ·subst h';exact dB
  nodup:=bu fun b=>by have:=mK b;have:=aS hi.nodup b;omega
  apart:=fun b hb hI=>by
   rcases hI with hI|hI
   ·exact hi.apart b (hmem b hb) hI
   ·have h1:=mK b
    have h2:=aS hi.nodup b
    rw[aq] at hb hI
    omega
  mine:=fun b hb=>.inl (hmem b hb)
  lt:=fun b hb=>hi.lt b (hmem b hb)
  ic:=fun b hb=>hb.elim (hi.ic b) fun h=>hi.lt b (Zn b h)
  heap:=fun _ _ _=>rfl
  size:=Nat.le_refl _
  os:=rfl
  tape:=rfl
  output:=rfl
  ek:=hII
  gY:=fun b h=>h.imp id fun h=>.inl (Zn b h)
  keep:=fun j f hf=>by
   by_cases e:k=j
   ·subst e
    rw[hg] at hf;cases hf
    exact⟨_,List.getElem?_set_self mc,fun _=>T.dy hok hc,k1,k2,k3⟩
   ·exact⟨f,by rw[List.getElem?_set_ne e];exact hf,fun _=>rfl,fun _ _=>rfl,fun _ _=>rfl,fun _ _ h _=>h⟩ }
 refine⟨h1,h2,_,_,?_,he.step hi S,hp.step hi S⟩
 have h3:=hi.step S
 rw[List.map_set,hi.erase,T.mZ,←ht,T.kR,T.bJ,←ht] at h3
 cases hb:Nat.ble c.F0.length k with
 | false=>simp only[St.er,hb,cond_false];exact h3
 | true =>
  have:=h3.iu fun j p s hj=>by
   have:=Nat.le_of_ble_eq_true hb
   have:(j==k)=false:=by simp;omega
   simp[dead,this]
  simp only[St.er,hb,cond_true,List.nil_append];exact this
theorem VS.er{c:Cx}{x:Code}{l:List Code}{K:Exit→St→Prop}{st:St}(k:Nat)(q:Path)(hlen:k<st.X.length)(hok:(st.tree k).dU q=true)(hne:T.noEntry true (st.tree k) q=true)
  (h:VS c (x::l) K (st.er c.F0.length k q)):VS c (x::l) K st :=
 VS.ghost (fun _ _ hr=>hr.er hlen hok hne) h
def AV.dN:AV→AV
 | .bE z=>.cA z .nil false
 | .cons a t=>.cons a.dN t.dN
 | .agg s=>.agg s.dN
 | .cT s=>.cT s.dN
 | a=>a
theorem Rl.dN{h:Array Obj}{I:Nat→Prop}{F:List G}{av:AV}:∀{m:Bool} {vs:List Value},Rl h I F av m vs→Rl h I F av.dN m vs:=by
 induction av with
 | bE z =>
  intro m vs H
  have hv:vs=[.slice none 0 0]:=by cases m<;>exact H
  subst hv
  cases m<;>exact⟨_,rfl,.nil,rfl,⟨trivial,trivial,fun _=>rfl,rfl,rfl,rfl⟩,fun h=>by cases h⟩
 | cons a t kz bO =>
  intro m vs H
  cases m<;>(obtain⟨v1,v2,h1,h2,h3⟩:=H;exact⟨v1,v2,h1,kz h2,bO h3⟩)
 | agg s ih =>
  intro m vs H
  cases m
  ·exact ih (m:=false) H
  ·obtain⟨cs,h1,h2⟩:=H;exact⟨cs,h1,ih h2⟩
 | cT s ih =>
  intro m vs H
  cases m
  ·exact H
  ·obtain⟨cs,h1,h2⟩:=H;exact⟨cs,h1,ih h2⟩
 | _=>intro m vs H;exact H
def St.dN (st:St) (t:Tmp):St:={ st with env:=(t,(look st.env t).dN)::st.env }
theorem VS.dN{c:Cx}{x:Code}{l:List Code}{K:Exit→St→Prop}{st:St}(t:Tmp)(h:VS c (x::l) K (st.dN t)):VS c (x::l) K st :=
 VS.ghost (st':=st.dN t) (fun a w ⟨h1,h2,I,F,hi,he,hp⟩=>⟨h1,h2,I,F,hi,fun t'=>by
  simp only[St.dN,look]
  split
  ·rename_i e;subst e;exact(he t).dN
  ·exact he t',hp⟩) h
def St.forget (st:St):St:={ st with pl:=[] }
theorem VS.forget{c:Cx}{x:Code}{l:List Code}{K:Exit→St→Prop}{st:St}(h:VS c (x::l) K st.forget):VS c (x::l) K st :=
 VS.ghost (st':=st.forget) (fun a w ⟨h1,h2,I,F,hi,he,hp⟩=>⟨h1,h2,I,F,hi,he,fun k q av hm=>by cases hm⟩) h
section
variable {c:Cx} {τ:bg} {st:St} {dst:Option Tmp} {ty:TypeId} {pos:String} {after:Array Edge} {g:Option (Nat×Bool)} {K:AV→St→Prop}
theorem Fz{f:FuncId}{b:List Operand}:cF c τ ⟨dst,.makeFunc (.func f) #[] b.toArray,ty,pos,after,g⟩ st K=az (zF st b) fun s=>K (.fn f s) st:=by
 simp[cF,jI,az]
theorem J4{t:TypeId}:cF c τ ⟨dst,.makeMap t none,ty,pos,after,g⟩ st K=K (.mp st.X.length []) { st with X:=st.X++[.map true () .nil] }:=by
 simp[cF,lW]
theorem abI{x:Operand}{t:TypeId}:cF c τ ⟨dst,.call ⟨.builtin .cap,#[x],#[t]⟩,ty,pos,after,g⟩ st K=az (st.ev x) fun x=>match x with
  | .bE _=>(τ t).sl.isSome=true∧K (.val (.int .i64 0)) st
  | _=>False:=rfl
theorem abJ{x y:Operand}{ts:Array TypeId}:cF c τ ⟨dst,.call ⟨.builtin .min,#[x,y],ts⟩,ty,pos,after,g⟩ st K=az (st.ev x) fun x=>az (st.ev y) fun y=>match x,y with
  | .val (.int k n),.val (.int k' m)=>k=k'∧K (.val (.int k (if m<n then m else n))) st
  | _,_=>False:=rfl
theorem abK{x y:Operand}{ts:Array TypeId}:cF c τ ⟨dst,.call ⟨.builtin .max,#[x,y],ts⟩,ty,pos,after,g⟩ st K=az (st.ev x) fun x=>az (st.ev y) fun y=>match x,y with
  | .val (.int k n),.val (.int k' m)=>k=k'∧K (.val (.int k (if n<m then m else n))) st
  | _,_=>False:=rfl
theorem abL{t u:TypeId}{x y:Operand}(h:Nat.beq t u=false):cF c τ ⟨dst,.call ⟨.builtin .append,#[x,y],#[t,u]⟩,ty,pos,after,g⟩ st K=az (st.jO τ t x) fun x=>az (st.ev y) fun y=>az (τ t).sl fun s=>az (τ u).int fun i=>match x,y,s,i with
  | .bE _,.val (.int _ n),some (e,z,cL,_),some _=>az (τ e).zero fun g=>match g with
   | some g=>0<n∧n*cL≤140737488355328∧n≤2 ^ 63-1∧K (.sub st.X.length [] 0 n.toNat false) { st with X:=st.X++[.sl true () z (oL (List.replicate n.toNat g.erase))] }
   | none=>False
  | _,_,_,_=>False:=by
 simp only[cF,TD,h,Bool.not_false];rfl
theorem Cb{t:TypeId}{x y:Operand}:cF c τ ⟨dst,.makeSlice t x y,ty,pos,after,g⟩ st K=az (st.ev x) fun x=>az (st.ev y) fun y=>az (τ t).sl fun s=>match x,y,s with
  | .val (.int _ n),.val (.int _ m),some (e,z,cL,_)=>az (τ e).zero fun g=>match g with
   | some g=>n=m∧0≤n∧n*cL≤140737488355328∧n≤2 ^ 63-1∧g.width=z∧0<z∧K (.sub st.X.length [] 0 n.toNat true) { st with X:=st.X++[.sl true () z (oL (List.replicate n.toNat g.erase))] }
   | none=>False
  | _,_,_=>False:=rfl
theorem Ph{t:TypeId}{x ix:Operand}{ok:Bool}:cF c τ ⟨dst,.lookup t x ix ok,ty,pos,after,g⟩ st K=az (st.ev x) fun x=>az (st.ev ix).key fun ix=>az (τ t).mp fun m=>match x,ix,m with
  | .mp k q,some key,some (e,kd)=>az ((st.tree k).at_ q) fun d=>match d with
   | .map _ _ s=>fh kd s∧kd.is key∧az (iT key s) fun r=>match r with
    | some v=>ei v false=true∧az (AV.pe st.pl k (q++[.i (mix key s),.f 1]) 0 v) fun av=>K (ua ok true av) st
    | none=>az (τ e).zero fun z=>match z with
     | some g=>az (AV.rz g) fun av=>av.nV=true∧K (ua ok false av) st
     | none=>False
   | _=>False
  | .val (.map none),some key,some (e,kd)=>kd.is key∧az (τ e).zero fun z=>match z with
   | some g=>az (AV.rz g) fun av=>av.nV=true∧K (ua ok false av) st
   | none=>False
  | _,_,_=>False:=rfl
theorem Cc{t:TypeId}{m x y:Operand}:cF c τ ⟨dst,.mapUpdate t m x y,ty,pos,after,g⟩ st K=az (st.ev m) fun m=>az (st.ev x).key fun x=>az (τ t).mp fun p=>match m,x,p with
  | .mp k [],some key,some (e,kd)=>az (st.X[k]?) fun r=>match r with
   | some (.map true () s)=>fh kd s∧kd.is key∧az (st.jO τ e y) fun y=>match y with
    | .mp k2 q=>q=[]∧az (st.X[k2]?) fun r2=>match r2 with
     | some (.map true () s2)=>k2≠k∧c.F0.length≤k2∧K .bad (st.entries c.F0.length k (ig key (.map true () s2) s) [(k2,[])] (st.X.set k2 (.aH ())))
     | _=>False
    | y=>az y.flat fun d=>match d with
     | some d=>K .bad (st.entries c.F0.length k (ig key d s) [] st.X)
     | none=>False
   | _=>False
  | _,_,_=>False:=rfl
theorem Pj{x y:Operand}{t u:TypeId}:cF c τ ⟨dst,.call ⟨.builtin .delete,#[x,y],#[t,u]⟩,ty,pos,after,g⟩ st K=az (st.ev x) fun m=>az (st.ev y).key fun x=>az (τ t).mp fun p=>match m,x,p with
  | .mp k [],some key,some (_,kd)=>az (st.X[k]?) fun r=>match r with
   | some (.map true () s)=>fh kd s∧kd.is key∧K (.cT .nil) (st.entries c.F0.length k (nO key s) [] st.X)
   | _=>False
  | _,_,_=>False:=rfl
theorem UT{x:Operand}{t:TypeId}:cF c τ ⟨dst,.call ⟨.builtin .clear,#[x],#[t]⟩,ty,pos,after,g⟩ st K=az (st.ev x) fun x=>az (τ t).sl fun s=>match x,s with
  | .sub k [] lo n _,some (e,z,_,_)=>az (st.X[k]?) fun r=>az (τ e).zero fun g=>match r,g with
   | some (.sl true () z' s),some g=>z'=z∧lo+n=s.len ∧
     K (.cT .nil) { env:=st.env.kill [(k,[.i 0])],X:=st.X.set k (.sl true () z ((s.take lo).app (oL (List.replicate n g.erase)))),κ:=(bif Nat.ble c.F0.length k then [] else [(k,[.i 0])])++st.κ,pl:=dK [(k,[.i 0])] st.pl }
   | _,_=>False
  | _,_=>False:=rfl
end
theorem abM{α:Type}(l:List (T α)):oL l=sq l:=by induction l with
 | nil=>rfl
 | cons a l ih=>simp[oL,sq,ih]
theorem Pk(k k':IntKind)(n:Int):(KK.int k).is (.int k' n)=(k'=k):=rfl
theorem Pm(s:ByteArray):KK.str.is (.string s)=True:=rfl
theorem Pn(a b:Int):KK.two.is (.agg #[.int .i64 a,.int .i64 b])=True:=eq_true ⟨a,b,rfl⟩
theorem Yh(v:Value):(AV.val v).key=some v:=rfl
theorem Yi(a b:Value):(AV.agg (.cons (.val a) (.cons (.val b) .nil))).key=some (.agg #[a,b]):=rfl
theorem Yj(p:Path):T.isVal (.f 1::p)=true:=rfl
theorem J5(v:Value):(AV.val v).nV=true:=rfl
theorem FA(z:Nat):(AV.bE z).nV=true:=rfl
theorem J6(s:AV):(AV.agg s).nV=true:=rfl
theorem Po(v:Value):(AV.val v).dN=.val v:=rfl
theorem Pp:AV.nil.dN=.nil:=rfl
theorem Pq(z:Nat)(s:D)(ex:Bool):(AV.cA z s ex).dN=.cA z s ex:=rfl
theorem Pr(k:Nat)(q:Path):(AV.ptr k q).dN=.ptr k q:=rfl
def FB:=@Po
def FC:=@Pp
def FD:=@Pq
def FE:=@Pr
def yJ:=@Fz
def Cd:=@J4
def UU:=@abI
def UW:=@abJ
def UX:=@abK
def xM:=@Cb
def UY:=@abL
def FF:=@Ph
def xN:=@Cc
def J7:=@UT
def FG:=@Pj
def FH:=@Pn
def Pt:=@Yj
def Pu:=@Yh
def Pv:=@Yi
def Pw:=@J5
def J8:=@FA
def Px:=@J6
def Py:=@St.entries.eq_1
def UZ:=@AV.flat.eq_4
def Pz:=@AV.kg.eq_1
def PA:=@AV.kg.eq_2
def PB:=@AV.kg.eq_3
def PC:=@AV.kg.eq_4
def PD:=@AV.kg.eq_5
def PE:=@AV.kg.eq_6
def aeL:=@abM
def FI:=@Pk
def FJ:=@Pm
def PF:=@zF.eq_1
def PG:=@zF.eq_2
def U0:=@ua.eq_1
def U1:=@AV.flat.eq_1
def U2:=@AV.flat.eq_2
def U3:=@AV.flat.eq_3
def PI:=@T.erase.eq_1
def PJ:=@T.erase.eq_3
def PK:=@T.erase.eq_4
def PL:=@T.erase.eq_5
def PM:=@T.erase.eq_6
def U4:=@AV.yf.eq_1
def U5:=@AV.yf.eq_2
def U6:=@AV.yf.eq_3
def PN:=@AV.dN.eq_1
def PO:=@AV.dN.eq_2
def PR:=@AV.dN.eq_3
def PS:=@AV.dN.eq_4
attribute [simp] FB FC FD FE UY yJ Cd UU UW UX xM FF xN J7 aeL FI FJ PF PG U0 FG FH Pt Pu Pv Pw J8 Px Py UZ Pz PA PB PC PD PE U1 U2 U3 U4 U5 U6
attribute [simp] PI PJ PK PL PM PN PO PR PS
end Go.Vc

namespace Go.Vc
set_option linter.all false
open T (cM blk)
def eR (P:Program) (f:FuncId) (Y:List D) (pl:List (Nat×Path×AV)) (args:AV) (R:AV→List D→List (Nat×Path)→Prop):Prop :=
 iX P f∧∀(w:World) (I:Nat→Prop) (F0:List G) (vs:List Value),F0.map T.erase=Y→(∀g∈F0,T.Holds w.heap I g)→(own F0).Nodup→(∀b∈own F0,¬I b)→(∀b∈own F0,b<w.heap.size) →
  (∀b,I b→b<w.heap.size)→dS pl w I F0→Rl w.heap I F0 args true vs →
  Calls P f vs.toArray w fun e w'=>∃v av X κ I' F',e=.returned v∧R av X κ∧Inv ⟨P,0,w,I,F0⟩ X κ w' I' F'∧Rl w'.heap I' F' av true [v]
theorem ai.cH{P:Program}{f:FuncId}{Y:List D}{args:AV}{R:AV→List D→List (Nat×Path)→Prop}(h:ai P f Y args R)(pl:List (Nat×Path×AV)):eR P f Y pl args R :=
 ⟨h.1,fun w I F0 vs h1 h2 h3 h4 h5 h6 _ h7=>h.2 w I F0 vs h1 h2 h3 h4 h5 h6 h7⟩
theorem eR.mono{P:Program}{f:FuncId}{Y:List D}{pl:List (Nat×Path×AV)}{args:AV}{R R':AV→List D→List (Nat×Path)→Prop}(h:eR P f Y pl args R)(hr:∀av X κ,R av X κ→R' av X κ):eR P f Y pl args R' :=
 ⟨h.1,fun w I F0 vs h1 h2 h3 h4 h5 h6 hp h7=>Calls.mono (h.2 w I F0 vs h1 h2 h3 h4 h5 h6 hp h7) fun _ _ ⟨v,av,X,κ,I',F',e1,e2,e3,e4⟩=>⟨v,av,X,κ,I',F',e1,hr _ _ _ e2,e3,e4⟩⟩
def uB (st:St) (aC:List (Nat×Path)):List (Nat×Path×AV)→Prop
 | []=>True
 | (i,q,av)::t=>(match aC[i]? with|some e=>(e.1,e.2++q,av.kO aC st.X.length)∈st.pl|none=>False)∧av.fH aC.length=true∧uB st aC t
theorem xO{st:St}{aC:List (Nat×Path)}{w:World}{I:Nat→Prop}{F:List G}(pq:∀e∈aC,(F.getD e.1 .nil).dU e.2=true∧aW ((F.getD e.1 .nil).at_ e.2)=true)(hp:dS st.pl w I F) :
  ∀{pl:List (Nat×Path×AV)},uB st aC pl→dS pl w I (nodes F aC)
 | [],_=>fun _ _ _ h=>by cases h
 | (i,q,av)::t,h=>fun k q' oK hm=>by
  obtain⟨h1,h2,h3⟩:=h
  rcases List.mem_cons.1 hm with e|hm
  ·cases e
   split at h1
   ·rename_i e he
    obtain⟨g,v,g1,g2,g3⟩:=hp _ _ _ h1
    refine⟨(F.getD e.1 .nil).at_ e.2,v,?_,?_,pz pq av h2 g3⟩
    ·rw[nodes,List.getElem?_map,he];rfl
    ·rw[List.getD_eq_getElem?_getD,g1,←g2,T.cY];rfl
   ·exact h1.elim
  ·exact xO pq hp h3 k q' oK hm
theorem eR.call{c:Cx}{f:FuncId}{Y:List D}{pl:List (Nat×Path×AV)}{args:AV}{R:AV→List D→List (Nat×Path)→Prop}(h:eR c.P f Y pl args R){st:St}{me:AV}{K:AV→St→Prop}(aC:List (Nat×Path))
  (hn:(aC.map (·.1)).Nodup) (oE:eU st aC Y) (ha:args.kO aC st.X.length=me) (hok:args.fH aC.length=true)
  (hx:aC=[]∨me.still=false) (hq:uB st aC pl) (hK:∀av X κ,R av X κ→K (av.kO aC st.X.length) (st.after c.F0.length aC X κ)):bx c f me st K:=by
 intro a w vs ⟨hd,hs,I,F,hi,he,hp,hxs⟩
 refine⟨h.1,?_⟩
 obtain⟨p1,p2,p3⟩:=gW oE
 have yd:F.length=st.X.length:=by rw[←hi.erase];simp
 have fD:∀k,st.tree k=(F.getD k .nil).erase:=fun k=>by
  rw[St.tree,←hi.erase,List.getD_eq_getElem?_getD,List.getElem?_map,List.getD_eq_getElem?_getD]
  cases F[k]? <;> rfl
 have gX:∀e∈aC,e.1<F.length∧(F.getD e.1 .nil).dU e.2=true∧T.noEntry false (F.getD e.1 .nil) e.2=true:=fun e he=>by
  obtain⟨h1,h2,h3,_⟩:=p2 e he
  rw[fD,T.gL] at h2
  rw[fD,T.eW] at h3
  exact⟨by omega,h2,h3⟩
 have pq:∀e∈aC,(F.getD e.1 .nil).dU e.2=true∧aW ((F.getD e.1 .nil).at_ e.2)=true:=fun e he=>by
  obtain⟨h1,h2,h3,h4⟩:=p2 e he
  rw[fD,←T.bJ,kP] at h4
  exact⟨(gX e he).2.1,h4⟩
 have hY:(nodes F aC).map T.erase=Y:=by
  rw[←p3,nodes,List.map_map]
  exact List.map_congr_left fun e he=>by simp only[Function.comp_apply,fD,T.bJ]
 subst ha
 have hargs:=pz pq args hok hxs
 have hsub:∀b,(own (nodes F aC)).count b≤(own F).count b:=fun b=>by
  have h3:=fN b aC (aC.map fun _=>T.nil) F hn (by simp) fun e he=>⟨(gX e he).1,(gX e he).2.1⟩
  have hz:(own (aC.map fun _=>(T.nil:G))).count b=0:=by rw[mX];rfl
  omega
 have hmem:∀b∈own (nodes F aC),b∈own F:=fun b hb=>by have:=hsub b;rw[aq] at *;omega
 refine Calls.mono (h.2 w I (nodes F aC) vs hY (fun g hg=>?_) (bu fun b=>Nat.le_trans (hsub b) (aS hi.nodup b)) (fun b hb=>hi.apart b (hmem b hb)) (fun b hb=>hi.lt b (hmem b hb)) hi.ic (xO pq hp hq) hargs) ?_
 ·simp only[nodes,List.mem_map] at hg
  obtain⟨e,he,rfl⟩:=hg
  have h1:=(gX e he).1
  refine T.Holds.at_ (hi.holds _ ?_) e.2
  rw[List.getD_eq_getElem?_getD,List.getElem?_eq_getElem h1];exact List.getElem_mem h1
 ·rintro e w' ⟨v,av,X,κ,I',F',rfl,hR,hc,hv⟩
  have S:=jo.call hi hn gX hc
  have hres:=sF (F':=F') hn (fun e he=>⟨(gX e he).1,(gX e he).2.1⟩) av hv
  refine⟨v,_,_,rfl,hK av X κ hR,⟨hd.step hi S,hs,I',joined aC F' F,?_,he.step hi S,hp.step hi S,by rw[←yd];exact hres⟩,fun hst b hb=>?_⟩
  rotate_left
  ·rcases hx with hx|hx
   ·subst hx;exact hc.frame b hb (by simp[nodes,own])
   ·rw[hst] at hx;cases hx
  have h2:=hi.step S
  have q9:(joined aC F' F).map T.erase=(st.after c.F0.length aC X κ).X:=by
   simp only[joined,St.after,List.map_append,lJ,hi.erase,List.map_take,List.map_drop,hc.erase]
  rw[q9] at h2
  refine h2.iY fun k q s hk oG=>?_
  simp only[St.after] at oG
  rw[aM,Bool.or_eq_false_iff] at oG ⊢
  refine⟨?_,oG.2⟩
  have h3:=oG.1
  unfold dead at h3 ⊢
  rw[List.any_eq_false] at h3 ⊢
  rintro⟨k0,q0⟩ hm hx
  refine h3 (k0,q0) (List.mem_filter.2 ⟨hm,?_⟩) hx
  simp only[Bool.and_eq_true,beq_iff_eq] at hx
  rw[←hx.1]
  exact Nat.ble_eq_true_of_le hk
theorem eR.Kr{P:Program}{τ:bg}(hτ:bg.Ok P τ){f:FuncId}{fn:Func}{body:Code}{Y:List D}{pl:List (Nat×Path×AV)}{args:AV}{R:AV→List D→List (Nat×Path)→Prop}
  (hf:P.funcs[f]? = some fn) (hb:fn.body=some body) (hname:(fn.name == "runtime.NumGoroutine")=false) {nt:Nat} (hnt:fn.ntmps=nt) {rs:List ResultVar} (wq:fn.results.toList=rs)
  (hl:args.gT=true) (hlen:args.len≤nt)
  (h:∀w0 I0 F0,F0.length=Y.length→VC ⟨P,nt,w0,I0,F0⟩ body (an τ rs R) ⟨fG 0 args,Y,[],pl⟩):eR P f Y pl args R:=by
 refine⟨⟨fn,hf,by rw[hb];rfl,hname⟩,fun w I F0 vs hY hH hnd hap hlt hil oE hx=>?_⟩
 subst hnt
 subst wq
 have hvl:=Rl.sO hl hx
 refine callsIn_wide.1 (callsIn_of_wp_marks (F:=Fence.wide) (n:=0) hf hb trivial (wpIn_wide.2 ?_))
 have tX:Rel ⟨P,fn.ntmps,w,I,F0⟩ ⟨fG 0 args,Y,[],pl⟩ { tmps:=vs.toArray++Array.replicate (fn.ntmps-vs.toArray.size) undef,defers:=[] } w:=by
  refine⟨oI.none _ _,by simp;omega,I,F0,⟨hY,hH,hnd,hap,hlt,hil,rfl,rfl,rfl,Nat.le_refl _,fun _ _ _=>rfl,fun b hb _=>hb,fun _ h=>h,fun _ h=>.inl h,
   fun k g0 hg=>⟨g0,hg,rfl,fun _ _=>rfl,fun _ _=>rfl,fun _ _ h _=>h⟩⟩,fun t=>?_,oE⟩
  rcases Nat.lt_or_ge t vs.length with fW|fW
  ·refine sP 0 t hl hx _ (fun _=>?_) (fun h=>by omega)
   rw[List.getElem?_eq_getElem (by omega)]
   simp only[Array.getD_eq_getD_getElem?]
   rw[Array.getElem?_append_left (by simpa using fW)]
   simp[fW]
  ·rw[qh 0 t hl (by omega)];exact⟨_,rfl⟩
 have hend:∀(st:St) a w',(ni τ st fn.results.toList fun s=>R (kH s) st.X st.κ)→Rel ⟨P,fn.ntmps,w,I,F0⟩ st a w' →
   LeavesInM Fence.wide 0 P fn a.tmps (fun e w'=>∃v' av X κ I' F',e=.returned v'∧R av X κ∧Inv ⟨P,0,w,I,F0⟩ X κ w' I' F'∧Rl w'.heap I' F' av true [v']) a.defers .returning w':=by
  intro st a w0' h1 ⟨⟨Ds,hds,hdn,RW⟩,hs,I0',F',pQ,he0,P8⟩
  rw[hds]
  refine kQ Ds w0' hdn (fun D hD=>(RW D hD).2) fun w' DZ=>?_
  obtain⟨I',hi,he,hp⟩:=Rel.shut (c:=⟨P,fn.ntmps,w,I,F0⟩) hil pQ he0 P8 (fun D hD=>⟨(RW D hD).1,_,(RW D hD).2,trivial⟩) DZ
  obtain⟨s,ws,g1,g2,g3,g4⟩:=lV (c:=⟨P,fn.ntmps,w,I,F0⟩) hτ hi he hp _ _ h1
  have hi':Inv ⟨P,0,w,I,F0⟩ st.X st.κ w' I' F':=⟨hi.erase,hi.holds,hi.nodup,hi.apart,hi.lt,hi.ic,hi.os,hi.tape,hi.output,hi.size,hi.frame,hi.fresh,hi.ek,hi.gY,hi.base⟩
  have hm:(fn.results.mapM (uJ a.tmps)).run P w'=.ok ws.toArray w':=by
   rw[←Array.toArray_toList (xs:=fn.results),Array.mapM_eq_mapM_toList]
   simp only[Sem.run_map]
   rw[g4];rfl
  have hres:∃v,(results fn a.tmps).run P w'=.ok v w'∧Rl w'.heap I' F' (kH s) true [v]:=by
   rw[rq]
   simp only[Sem.run_bind,hm,Result.andThen_ok,Sem.run_pure]
   refine⟨_,rfl,?_⟩
   cases s with
   | nil=>cases g2;exact⟨[],rfl,rfl⟩
   | cons x r =>
    obtain⟨v,vs',e,k1,k2⟩:=id g2
    subst e
    cases r with
    | nil=>cases k2;simpa[kH] using k1
    | cons y r =>
     obtain⟨v2,vs2,e2,_,_⟩:=id k2
     subst e2
     simp only[kH]
     exact⟨v::v2::vs2,by simp,g2⟩
    | _=>cases g3
   | _=>cases g3
  obtain⟨v,g5,g6⟩:=hres
  exact⟨v,g5,v,_,_,_,I',F',rfl,g1,hi',g6⟩
 refine wp_mono (h w I F0 (by rw[←hY];simp) _ w tX) fun e a w' ⟨st,h1,h2⟩=>?_
 cases e with
 | normal=>exact hend st a w' h1 h2
 | ret=>exact hend st a w' h1 h2
 | _=>exact h1.elim
theorem eR.Dn{P:Program}{τ:bg}(hτ:bg.Ok P τ){f:FuncId}{fn:Func}{body:Code}{Y:List D}{pl:List (Nat×Path×AV)}{args:AV}{R:AV→List D→List (Nat×Path)→Prop}
  (hf:P.funcs[f]? = some fn) (hb:fn.body=some body) (hname:(fn.name == "runtime.NumGoroutine")=false) {nt:Nat} (hnt:fn.ntmps=nt) {rs:List ResultVar} (wq:fn.results.toList=rs)
  (hl:args.gT=true) (hlen:args.len≤nt) {st:St} (hst:⟨fG 0 args,Y,[],pl⟩=st)
  (h:∀w0 I0 F0,F0.length=Y.length→VS ⟨P,nt,w0,I0,F0⟩ [body] (ak Y.length τ rs R) st):eR P f Y pl args R :=
 eR.Kr hτ hf hb hname hnt wq hl hlen fun w0 I0 F0 hF=>by
  subst hst
  refine VC.mono' (K:=eN (VS ⟨P,nt,w0,I0,F0⟩ [] (ak Y.length τ rs R)) (ak Y.length τ rs R)) (by with_unfolding_all exact h w0 I0 F0 hF) fun e st' a w hk hr=>?_
  have key:ak Y.length τ rs R e st'→∃i7,an τ rs R e i7∧Rel ⟨P,nt,w0,I0,F0⟩ i7 a w:=fun ⟨ts,cw,κ',h1,h2,h3⟩ =>
   have ⟨g1,g2,I,F,hi,he,hp⟩:=hr.pick ts (cw:=cw) (by rw[←hF] at h1;exact h1)
   ⟨_,h3,g1,g2,I,F,hi.iY (κ':=κ') (fun _ _ _ _ hd=>iE (by simpa[St.pick] using h2) hd),he,hp⟩
  cases e with
  | normal =>
   have h1:VS _ [] _ st':=hk
   exact key (by with_unfolding_all exact h1)
  | ret=>exact key hk
  | _=>exact key hk
theorem eR.goP{c:Cx}{f:FuncId}{Y:List D}{pl:List (Nat×Path×AV)}{args:AV}{R:AV→List D→List (Nat×Path)→Prop}(h:eR c.P f Y pl args R){st:St}{me:AV}{K:AV→St→Prop}(aC:List (Nat×Path))
  (hc:(aC.map (·.1)).Nodup∧eU st aC Y∧args.kO aC st.X.length=me∧args.fH aC.length=true∧(aC=[]∨me.still=false)∧uB st aC pl) (hK:∀av X κ,R av X κ→K (av.kO aC st.X.length) (st.after c.F0.length aC X κ)):bx c f me st K :=
 h.call aC hc.1 hc.2.1 hc.2.2.1 hc.2.2.2.1 hc.2.2.2.2.1 hc.2.2.2.2.2 hK
end Go.Vc

namespace Go.Vc
set_option linter.all false
open T (cM blk)
section
variable {lo n:Nat} {P:Program} {o:Oper} {a:Act} {w w':World} {next:Act→World→Prop} {Q:Exit→Act→World→Prop}
theorem uk{x:Next}(h:(execOp a.eval o).run P w=.ok x w')(hx:∀d,x≠.defer d):∀c,o.op≠.defer c:=fun c e=>by
 obtain⟨dst,op,ty,pos,after,guard⟩:=o
 simp only at e
 subst e
 simp only[execOp,Sem.run_bind,Sem.run_pure] at h
 cases hr:(resolve a.eval c ty).run P w with
 | ok d w2=>rw[hr] at h;simp only[Result.andThen_ok,Sem.run_pure,Result.ok.injEq] at h;exact hx _ h.1.symm
 | halt=>rw[hr] at h;cases h
theorem xP{v:Value}(h:(execOp a.eval o).run P w=.ok (.value v) w')(hn:next (a.put o.dst v) w'):o.wpIn (Fence.wide.inRound lo) n P a w next Q :=
 ⟨fun _ _=>trivial,by
  rw[show (Fence.wide.inRound lo).round=some lo from rfl,Oper.semAt_some lo _ o (uk h fun d=>by simp),h]
  exact hn⟩
theorem KO(h:(execOp a.eval o).run P w=.ok .skip w')(hn:next (a.put o.dst undef) w'):o.wpIn (Fence.wide.inRound lo) n P a w next Q :=
 ⟨fun _ _=>trivial,by
  rw[show (Fence.wide.inRound lo).round=some lo from rfl,Oper.semAt_some lo _ o (uk h fun d=>by simp),h]
  exact hn⟩
theorem U7{f:FuncId}{args:Array Value}(h:(execOp a.eval o).run P w=.ok (.enter f args) w')(hn:Calls P f args w' fun
  | .returned v,w''=>next (a.put o.dst v) w''
  | .panicked chain,w''=>Q (.panic chain) a w''
  | .outgrown,_=>LetsOut Q):o.wpIn (Fence.wide.inRound lo) n P a w next Q :=
 ⟨fun _ _=>trivial,by
  rw[show (Fence.wide.inRound lo).round=some lo from rfl,Oper.semAt_some lo _ o (uk h fun d=>by simp),h,Oper.uponIn_enter]
  exact⟨fun h=>by simp[Fence.wide] at h,CallsIn.inRound lo (callsIn_wide.2 hn)⟩⟩
end
theorem Yk{lo n:Nat}{c:Cx}{τ:bg}(hτ:bg.Ok c.P τ){st:St}{a:Act}{w:World}(h:Rel c st a w){o:Oper}{K:AV→St→Prop}(hv:cF c τ o st K){next:Act→World→Prop}{Q:Exit→Act→World→Prop}
  (hn:∀av v st' w',K av st'→gr c st' av v a w'→(ff o.op=true∨bG τ st o.op=true→Ext w w')→next (a.put o.dst v) w'):o.wpIn (Fence.wide.inRound lo) n c.P a w next Q:=by
 obtain⟨hd,hs,I,F,hi,he,hp⟩:=id h
 have value:∀av v st',K av st'→gr c st' av v a w→(execOp a.eval o).run c.P w=.ok (.value v) w→o.wpIn (Fence.wide.inRound lo) n c.P a w next Q:=fun av v st' h1 h2 h3=>by
  refine xP h3 (hn av v st' w h1 h2 fun _ _ _=>rfl)
 have TE:fI τ c.F0.length o.op st K→o.wpIn (Fence.wide.inRound lo) n c.P a w next Q:=fun hv=>by
  obtain⟨av,st',v,w',n,h1,h2,h3,h4,h5⟩:=TC hτ h hv
  have TF:ff o.op=true∨bG τ st o.op=true→Ext w w':=fun h=>h.elim h5 fun h=>by rw[zJ hv] at h;cases h
  rcases h3 with rfl|⟨rfl,rfl⟩
  ·exact xP h2 (hn av v st' w' h1 h4 TF)
  ·exact KO h2 (hn av undef st' w' h1 h4 TF)
 have rE:lW τ c.F0.length o.op st K→o.wpIn (Fence.wide.inRound lo) n c.P a w next Q:=fun hv=>by
  obtain⟨av,st',v,w',n,h1,h2,h3,h4,h5⟩:=vJ hτ h hv
  have TF:ff o.op=true∨bG τ st o.op=true→Ext w w':=fun h=>h.elim h5 fun h=>by rw[zK hv] at h;cases h
  rcases h3 with rfl|⟨rfl,rfl⟩
  ·exact xP h2 (hn av v st' w' h1 h4 TF)
  ·exact KO h2 (hn av undef st' w' h1 h4 TF)
 have pure:∀{K':AV→Prop},(∀av,K' av→K av st)→jI τ o.op o.type st K'→o.wpIn (Fence.wide.inRound lo) n c.P a w next Q:=fun hk hv=>by
  obtain⟨av,v,h1,h2,h3⟩:=A1 hτ hi he hv
  exact value av v st (hk _ h1) ⟨hd,hs,I,F,hi,he,hp,h2⟩ (h3 w)
 unfold cF at hv
 split at hv
 ·rename_i t x ho
  obtain⟨av,v,h1,h2,h3⟩:=sJ hτ hi he hp (o:=o) (K:=fun av=>K av st) (by rw[ho];exact hv)
  exact value av v st h1 ⟨hd,hs,I,F,hi,he,hp,h2⟩ (h3 w fun _ _=>rfl)
 ·rename_i ho;exact TE (by rw[ho];exact hv)
 ·rename_i ho;exact TE (by rw[ho];exact hv)
 ·rename_i ho;exact TE (by rw[ho];exact hv)
 ·rename_i ho;exact TE (by rw[ho];exact hv)
 ·rename_i t parts ho
  obtain⟨av,v,h1,h2,h3⟩:=xz hτ he hv
  refine value av v st h1 ⟨hd,hs,I,F,hi,he,hp,h2⟩ ?_
  obtain⟨dst,op,ty,pos,after,guard⟩:=o
  simp only at ho;subst ho
  simp[execOp,h3]
 ·rename_i t x lo hi' mx ho
  obtain⟨hm,hv⟩:=hv
  have opt:∀(x:Option Operand),MR w.heap I F (x.map st.ev) (x.map a.eval):=fun x=>by
   cases x with
   | none=>trivial
   | some x=>exact he.ev x
  obtain⟨av,v,h1,h2,h3⟩:=xu hτ hi (he.jO (τ:=τ) t x) (opt lo) (opt hi') (opt mx) (by simpa using hm) hv
  refine value av v st h1 ⟨hd,hs,I,F,hi,he,hp,h2⟩ ?_
  obtain⟨dst,op,ty,pos,after,guard⟩:=o
  simp only at ho;subst ho
  simp[execOp,h3]
 ·rename_i cc ho
  split at hv
  ·split at hv
   ·exact rE (by rw[ho];exact hv)
   ·exact TE (by rw[ho];exact hv)
  ·exact rE (by rw[ho];exact hv)
  ·exact rE (by rw[ho];exact hv)
  ·rename_i f dc
   split at hv
   case h_2=>exact hv.elim
   rename_i g s hf
   obtain⟨hsq,hv⟩:=hv
   have Qb:=he.ev f
   rw[hf] at Qb
   obtain⟨l,h1,h2⟩:=Qb
   have hargs:=lN (τ:=τ) he h2 cc.args.toList cc.argTypes.toList
   obtain⟨hb,wR⟩:=hv a w _ ⟨hd,hs,I,F,hi,he,hp,hargs⟩
   injection h1 with h1 _
   obtain⟨dst,op,ty,pos,after,guard⟩:=o
   simp only at ho;subst ho
   have hrun:(execOp a.eval ⟨dst,.call cc,ty,pos,after,guard⟩).run c.P w=.ok (.enter g (cc.args.toList.map a.eval++l).toArray) w:=by
    have RG:cc.args.map a.eval++l.toArray=(cc.args.toList.map a.eval++l).toArray:=by apply Array.ext';simp
    simp[execOp,resolve,dc,h1,Deferred.ofValue,invoke,kK hb,RG]
   refine U7 hrun (Calls.mono wR fun e w' he'=>?_)
   obtain⟨v,av,st',rfl,k1,k2,k3⟩:=he'
   refine hn av v st' w' k1 k2 fun h=>?_
   rcases h with h|h
   ·simp[ff,dc] at h
   ·exact k3 (by simpa[bG,dc,hf,sY] using h)
  ·exact pure (K':=fun av=>K av st) (fun _ h=>h) (by rw[ho];exact hv)
 ·rename_i op t x y ty ho
  split at hv
  ·rename_i s u hx hy
   obtain⟨hop,b,⟨h1,h2⟩,h3⟩:=hv
   have oH:=he.ev x
   have uZ:=he.ev y
   rw[hx] at oH
   rw[hy] at uZ
   obtain⟨xs,e1,r1⟩:=oH
   obtain⟨ys,e2,r2⟩:=uZ
   injection e1 with e1 _
   injection e2 with e2 _
   have hr:=h2 w.heap I F xs ys w r1 r2
   obtain⟨dst,op',ty',pos,after,guard⟩:=o
   simp only at ho;subst ho
   rcases hop with rfl|rfl
   ·refine value _ (.bool b) st h3 ⟨hd,hs,I,F,hi,he,hp,rfl,rfl⟩ ?_
    simp[execOp,eqGuard,h1,binOp,e1,e2,hr]
   ·refine value _ (.bool !b) st h3 ⟨hd,hs,I,F,hi,he,hp,rfl,rfl⟩ ?_
    simp[execOp,eqGuard,h1,binOp,e1,e2,hr]
  ·exact pure (K':=fun av=>K av st) (fun _ h=>h) (by rw[ho];exact hv)
 ·rename_i ho;exact rE (by rw[ho];exact hv)
 ·rename_i ho;exact rE (by rw[ho];exact hv)
 ·rename_i ho;exact rE (by rw[ho];exact hv)
 ·rename_i ho;exact rE (by rw[ho];exact hv)
 ·exact pure (K':=fun av=>K av st) (fun _ h=>h) hv
def wr (ops:List Oper) (t:Nat):Bool:=ops.any fun o=>o.dst==some t
theorem DU{a:Act}{d:Option Tmp}{v:Value}{t:Nat}(h:d≠some t):(a.put d v).tmps.getD t undef=a.tmps.getD t undef:=by
 cases d with
 | none=>rfl
 | some d =>
  have hne:d≠t:=fun e=>h (by rw[e])
  simp[Act.put,Array.getD_eq_getD_getElem?,Array.getElem?_setIfInBounds_ne hne]
theorem xQ{lo n:Nat}{c:Cx}{τ:bg}(hτ:bg.Ok c.P τ){all:List Oper}{gs:List (Nat×Tmp)}(nh:oJ all gs=true){Q:Exit→Act→World→Prop}{K:St→Prop}{a0:Act}
  (hQ:∀st a w,K st→Rel c st a w→(a.defers=a0.defers∧∀t,wr all t=false→a.tmps.getD t undef=a0.tmps.getD t undef)→Q .normal a w) :
  ∀(l:List Oper) (i:Nat) (st:St) (a:Act) (w:World),dY c.nt l=true→(∀o∈l,∀d,o.dst=some d→wr all d=true)→(a.defers=a0.defers∧∀t,wr all t=false→a.tmps.getD t undef=a0.tmps.getD t undef) →
   Rel c st a w→eL c τ gs l i st K→wpListIn (Fence.wide.inRound lo) n c.P all.toArray Q l a w
 | [],_,st,a,w,_,_,hsame,h,hv=>hQ st a w hv h hsame
 | o::r,i,st,a,w,hl,hsub,hsame,h,hv=>by
  simp only[dY,List.all_cons,Bool.and_eq_true] at hl
  have iN:∀t,o.dst=some t→t<c.nt:=fun t ht=>by
   have:=hl.1;rw[ht] at this;exact Nat.le_of_ble_eq_true this
  have hput:∀v,(a.put o.dst v).defers=a0.defers∧∀t,wr all t=false→(a.put o.dst v).tmps.getD t undef=a0.tmps.getD t undef:=fun v=>⟨by rw[←hsame.1];cases o.dst<;>rfl,fun t ht=>by
   rw[DU fun e=>by rw[hsub o List.mem_cons_self t e] at ht;cases ht]
   exact hsame.2 t ht⟩
  have Zo:∀o∈r,∀d,o.dst=some d→wr all d=true:=fun o ho=>hsub o (List.mem_cons_of_mem _ ho)
  unfold eL at hv
  unfold wpListIn
  split at hv
  ·rename_i hg
   rw[if_pos (cV nh h hg)]
   refine Yk hτ h hv fun av v st' w' h1 h2 _=>?_
   obtain⟨i7,h3,h4⟩:=fM h1 h2 iN
   exact xQ hτ nh hQ r (i+1) i7 _ w' hl.2 Zo (hput v) h4 h3
  ·rename_i hg
   rw[cV nh h hg]
   simp only[Bool.false_eq_true,if_false]
   obtain⟨hd,hs,I,F,hi,he,hp⟩:=h
   exact⟨fun _ _=>trivial,xQ hτ nh hQ r (i+1) _ _ w hl.2 Zo (hput undef) (gr.put (av:=.cT .nil) (v:=undef) ⟨hd,hs,I,F,hi,he,hp,[],rfl,rfl⟩ iN) hv⟩
  ·exact hv.elim
theorem PT{lo n:Nat}{c:Cx}{τ:bg}(hτ:bg.Ok c.P τ){id:Nat}{ops:List Oper}{K:St→Prop}{st:St}(gs:List (Nat×Tmp))(hd:kE c.nt ops gs=true)
  (h:eL c τ gs ops 0 st K) {a:Act} {w:World} (hr:Rel c st a w) :
  (Code.region id ops.toArray false).wpIn (Fence.wide.inRound lo) n c.P (fun e a' w'=>e=.normal∧∃st',K st'∧Rel c st' a' w'∧a'.defers=a.defers∧∀t,wr ops t=false→a'.tmps.getD t undef=a.tmps.getD t undef) a w:=by
 simp only[kE,Bool.and_eq_true] at hd
 refine wpIn_region_list ?_
 have:=xQ (lo:=lo) (n:=n) (a0:=a) (Q:=fun e a' w'=>e=.normal∧∃st',K st'∧Rel c st' a' w'∧a'.defers=a.defers∧∀t,wr ops t=false→a'.tmps.getD t undef=a.tmps.getD t undef) hτ hd.2
  (fun st' a' w' h1 h2 h3=>⟨rfl,st',h1,h2,h3⟩) ops 0 st a w hd.1 (fun o ho d e=>List.any_eq_true.2 ⟨o,ho,by simp[e]⟩) ⟨rfl,fun _ _=>rfl⟩ hr h
 simpa using this
end Go.Vc

namespace Go.Vc
set_option linter.all false
open T (cM blk)
def VI (c:Cx) (code:Code) (K:St→Prop) (st:St):Prop :=
 ∀(a:Act) (w:World) (lo n:Nat),Rel c st a w→code.wpIn (Fence.wide.inRound lo) n c.P (fun e a' w'=>e=.normal∧(∃st',K st'∧Rel c st' a' w')∧a'.defers=a.defers) a w
theorem VI.region{c:Cx}{τ:bg}(hτ:bg.Ok c.P τ){id:Nat}{ops:List Oper}{K:St→Prop}{st:St}(gs:List (Nat×Tmp))(hd:kE c.nt ops gs=true)(h:eL c τ gs ops 0 st K):VI c (.region id ops.toArray false) K st :=
 fun a w lo n hr=>wpIn_mono (PT hτ gs hd h hr) fun _ _ _ ⟨h1,st',h2,h3,h4,_⟩=>⟨h1,⟨st',h2,h3⟩,h4⟩
theorem VI.ghost{c:Cx}{code:Code}{K:St→Prop}{st st':St}(hg:∀a w,Rel c st a w→Rel c st' a w)(h:VI c code K st'):VI c code K st:=fun a w lo n hr=>h a w lo n (hg a w hr)
theorem VI.mono{c:Cx}{code:Code}{K K':St→Prop}{st:St}(h:VI c code K st)(hk:∀st,K st→K' st):VI c code K' st :=
 fun a w lo n hr=>wpIn_mono (h a w lo n hr) fun _ _ _ ⟨h1,⟨st',h2,h3⟩,h4⟩=>⟨h1,⟨st',hk _ h2,h3⟩,h4⟩
theorem VI.mono'{c:Cx}{code:Code}{K K':St→Prop}{st:St}(h:VI c code K st)(hk:∀st a w,K st→Rel c st a w→∃st',K' st'∧Rel c st' a w):VI c code K' st :=
 fun a w lo n hr=>wpIn_mono (h a w lo n hr) fun _ _ _ ⟨h1,⟨st',h2,h3⟩,h4⟩=>⟨h1,hk _ _ _ h2 h3,h4⟩
theorem Inv.aat{c:Cx}{X:List D}{κ:List (Nat×Path)}{w:World}{I:Nat→Prop}{F:List G}(hi:Inv c X κ w I F)(nt:Nat):Inv ⟨c.P,nt,w,I,F⟩ X [] w I F :=
 ⟨hi.erase,hi.holds,hi.nodup,hi.apart,hi.lt,hi.ic,rfl,rfl,rfl,Nat.le_refl _,fun _ _ _=>rfl,fun _ h _=>h,fun _ h=>h,fun _ h=>.inl h,
  fun k g0 h=>⟨g0,h,rfl,fun _ _=>rfl,fun _ _=>rfl,fun _ _ h _=>h⟩⟩
theorem jo.RX{P:Program}{nt nb:Nat}{X':List D}{κ':List (Nat×Path)}{w w':World}{I I':Nat→Prop}{F F':List G}(hc:Inv ⟨P,nt,w,I,F⟩ X' κ' w' I' F'):jo w w' I I' F F' κ' nb where
 holds:=hc.holds
 nodup:=hc.nodup
 apart:=hc.apart
 mine:=fun b hb=>by
  rcases Nat.lt_or_ge b w.heap.size with h|h
  ·exact .inl (hc.fresh b hb h)
  ·exact .inr h
 lt:=hc.lt
 ic:=hc.ic
 heap:=hc.frame
 size:=hc.size
 os:=hc.os
 tape:=hc.tape
 output:=hc.output
 ek:=hc.ek
 gY:=fun b hb=>by
  rcases hc.gY b hb with h|h|h
  ·exact .inl h
  ·exact .inr (.inr h)
  ·exact .inr (.inl h)
 keep:=fun k g hg=>by
  obtain⟨g',h1,h2,h3,h4,h5⟩:=hc.base k g hg
  exact⟨g',h1,fun _=>h2,h3,h4,h5⟩
theorem Inv.shut{c:Cx}{X:List D}{κ:List (Nat×Path)}{w w':World}{I:Nat→Prop}{F:List G}(hil:∀b,c.I0 b→b<c.w0.heap.size)(hi:Inv c X κ w I F){Ds:List Nat}
  (hD:∀D∈Ds,c.w0.heap.size≤D∧∃o,w.heap[D]? = some o∧book o) (s:abu Ds w w'):∃I',Inv c X κ w' I' F∧∀{av m vs},Rl w.heap I F av m vs→Rl w'.heap I' F av m vs:=by
 have hown:∀b∈own F,b∉Ds:=fun b hb hm=>by obtain⟨_,o,h1,h2⟩:=hD b hm;exact sZ hi.holds h1 h2 hb
 have pL:∀b,b<c.w0.heap.size→b∉Ds:=fun b hb hm=>by have:=(hD b hm).1;omega
 have Ub:∀b,live w.heap b→b∉Ds:=fun b hb hm=>by obtain⟨_,o,h1,h2⟩:=hD b hm;exact hb o h1 h2
 have hI:∀b,I b∧live w.heap b→w'.heap[b]? = w.heap[b]?:=fun b hb=>s.heap b (hi.ic b hb.1) (Ub b hb.2)
 have hmono:∀b,I b∧live w.heap b→I b∧(b<c.w0.heap.size∨live w.heap b):=fun b hb=>⟨hb.1,.inr hb.2⟩
 refine⟨fun b=>I b∧(b<c.w0.heap.size∨live w.heap b),?_,fun {av m vs} H =>
  (Rl.live H).agree hI hmono (AV.fR (κ:=[]) (AV.ja _) (fun _ _ _ _=>rfl) (fun _ _ _ _=>rfl) H)⟩
 exact⟨hi.erase,fun g hg=>(Holds.live (hi.holds g hg)).agree (fun b hb=>s.heap b (hi.lt b (List.mem_flatMap.2 ⟨g,hg,hb⟩)) (hown b (List.mem_flatMap.2 ⟨g,hg,hb⟩))) hI hmono,hi.nodup,fun b hb h=>hi.apart b hb h.1,
  fun b hb=>Nat.lt_of_lt_of_le (hi.lt b hb) s.size,fun b hb=>Nat.lt_of_lt_of_le (hi.ic b hb.1) s.size,s.os.trans hi.os,s.tape.trans hi.tape,s.output.trans hi.output,Nat.le_trans hi.size s.size,
  fun b h1 h2=>(s.heap b (Nat.lt_of_lt_of_le h1 hi.size) (pL b h1)).trans (hi.frame b h1 h2),hi.fresh,fun b hb=>⟨hi.ek b hb,.inl (hil b hb)⟩,fun b hb=>hi.gY b hb.1,hi.base⟩
theorem dS.sL{pl:List (Nat×Path×AV)}{w w':World}{I I':Nat→Prop}{F:List G}(H:dS pl w I F)(h:∀{av m vs},Rl w.heap I F av m vs→Rl w'.heap I' F av m vs):dS pl w' I' F :=
 fun k q av hm=>let ⟨g,v,h1,h2,h3⟩:=H k q av hm;⟨g,v,h1,h2,h h3⟩
theorem VI.lift{c:Cx}{code:Code}{K:St→Prop}{st:St}(k:Nat)(q:Path)(hlen:k<st.X.length)(hok:(st.tree k).dU q=true)(hn:isNode ((st.tree k).at_ q)=true)
  (hne:T.noEntry true (st.tree k) q=true) (h:VI c code K (st.lift c.F0.length k q)):VI c code K st:=VI.ghost (fun _ _ hr=>hr.lift hlen hok hn hne) h
theorem VI.block{c:Cx}{id:Nat}{code:Code}{K:St→Prop}{st:St}(h:VI c code K st):VI c (.block id code) K st:=fun a w lo n hr =>
 wpIn_block (wpIn_mono (h a w lo n hr) fun e a' w' ⟨h1,h2⟩=>by subst h1;exact⟨rfl,h2⟩)
def AV.c9 (d0:D):AV→AV
 | .ptr 0 q=>match q,d0 with
  | [.d],.box true _ d=>.fP d.freeze
  | _,_=>.bad
 | .ptr (k+1) q=>.ptr k q
 | .sub 0 q lo n ex=>match q,d0 with
  | [],.sl true _ z s=>.cA z (s.mid lo n).freeze ex
  | [],_=>.bad
  | x::q,d0=>match d0.at_ (x::q) with
   | .sl true _ z s=>.cA z (s.mid lo n).freeze ex
   | _=>.bad
 | .sub (k+1) q lo n ex=>.sub k q lo n ex
 | .mp 0 _=>.bad
 | .mp (k+1) q=>.mp k q
 | .cons a t=>.cons (a.c9 d0) (t.c9 d0)
 | .agg s=>.agg (s.c9 d0)
 | .cT s=>.cT (s.c9 d0)
 | .fn f s=>.fn f (s.c9 d0)
 | a=>a
theorem Rl.c9{h:Array Obj}{I I':Nat→Prop}{F:List G}{g0:G}(hg:T.Holds h I g0)(hI:∀b,I b→I' b)(ho:∀b∈g0.owned,I' b){av:AV} :
  ∀{m:Bool} {vs:List Value},Rl h I (g0::F) av m vs→Rl h I' F (av.c9 g0.erase) m vs:=by
 have vN:∀{m:Bool} {v:Value},v.oneCell'=true→Rl h I' F .bad m [v]:=fun {m v} hv=>by
  cases m
  ·exact⟨v,rfl,hv⟩
  ·exact⟨v,rfl⟩
 induction av with
 | bad=>intro m vs H;cases m<;>exact H
 | val v=>intro m vs H;cases m<;>exact H
 | bE z=>intro m vs H;cases m<;>exact H
 | cut z=>intro m vs H;cases m<;>exact H
 | ptr k q =>
  intro m vs H
  have H:∃b o,dF (g0::F) k q=some (.abs b o)∧vs=[.pointer (some ⟨b,o,none⟩)]:=by cases m<;>exact H
  obtain⟨b,o,h1,rfl⟩:=H
  cases k with
  | succ k=>cases m<;>exact⟨b,o,by simpa[dF,AV.c9] using h1,rfl⟩
  | zero =>
   simp only[AV.c9]
   split
   ·rename_i d he
    obtain⟨a,g,rfl⟩:∃a g,g0=.box true a g:=by
     cases g0<;>simp only[T.erase] at he<;>cases he
     exact⟨_,_,rfl⟩
    simp only[T.erase,T.box.injEq,true_and] at he
    obtain⟨q1,q3,q4⟩:=id hg
    split at q4
    case h_2=>exact q4.elim
    rename_i x
    obtain⟨k1,_,_,k2⟩:=q4
    obtain⟨xb,xo,xs⟩:=x
    simp only at k1
    subst k1
    have L3:b=xb∧o=xo:=by
     simp only[dF,List.getElem?_cons_zero,Option.bind_some,T.loc,T.bQ,Option.some.injEq,Loc.abs.injEq] at h1
     exact⟨h1.1.symm,by omega⟩
    obtain⟨rfl,rfl⟩:=L3
    have hr:mC h I' d.freeze (.pointer (some ⟨b,o,none⟩)) :=
     ⟨g.freeze,⟨b,o,none⟩,by rw[T.kR,he],q1.freeze hI (fun b hb=>ho b (by simp[T.owned,hb])),T.kq g,rfl,rfl,ho b (by simp[T.owned,blk]),by rw[T.jk];exact k2⟩
    cases m<;>exact⟨_,rfl,hr⟩
   ·exact vN rfl
 | sub k q lo n ex =>
  intro m vs H
  have H:∃own a z len v,bM (g0::F) k q=some (own,a,z,len)∧vs=[v]∧ku a z len lo n ex v:=by cases m<;>exact H
  obtain⟨own,a,z,len,v,h1,rfl,h2⟩:=H
  cases k with
  | succ k=>cases m<;>exact⟨own,a,z,len,v,by simpa[bM,AV.c9] using h1,rfl,h2⟩
  | zero =>
   have main:∀{z':Nat} {s:D},((g0.at_ q).erase=.sl true () z' s)→Rl h I' F (.cA z' (s.mid lo n).freeze ex) m [v]:=fun {z' s} he=>by
    have uN:=hg.at_ q
    have hoq:∀b∈(g0.at_ q).owned,I' b:=fun b hb=>ho b ((T.ng hg q).subset hb)
    simp only[bM,List.getElem?_cons_zero,Option.bind_some] at h1
    generalize g0.at_ q=g1 at *
    obtain⟨a',s0,rfl⟩:∃a' s0,g1=.sl true a' z' s0:=by
     cases g1<;>simp only[T.erase] at he<;>cases he
     exact⟨_,_,rfl⟩
    simp only[T.erase,T.sl.injEq,true_and] at he
    simp only[cM,Option.some.injEq,Prod.mk.injEq] at h1
    obtain⟨rfl,rfl,rfl,rfl⟩:=h1
    obtain⟨hs,hl⟩:=T.Holds.qt uN h2
    have hsub:∀b∈(T.sl true v z' (s0.mid lo n):G).owned,b∈(T.sl true a' z' s0:G).owned:=fun b hb=>by
     have q1:=(T.ny s0 lo n).count_le b
     obtain⟨A,c,rfl,_,_,_,_,h4⟩:=h2
     rw[aq] at hb ⊢
     simp only[T.owned,List.count_append,if_true] at hb ⊢
     split at h4
     ·obtain⟨rfl,_⟩:=h4;simp only[blk,List.count_nil] at hb ⊢;omega
     ·rename_i x n' cap;obtain⟨y,rfl,_,h6,h7,_⟩:=h4;have:=T.KF (n:=n) (n':=n') h6 (Nat.le_trans (Nat.le_add_left c lo) h7) b;omega
     ·exact h4.elim
    have hr:rB h I' z' (s.mid lo n).freeze ex v:=⟨(s0.mid lo n).freeze,by rw[T.kR,T.k9,he],hs.freeze hI fun b hb=>hoq b (hsub b hb),fun he A n' c hv=>by obtain⟨A',c',q,_,_,_,q4,_⟩:=h2;rw[q] at hv;cases hv;exact q4 he⟩
    cases m<;>exact⟨_,rfl,hr⟩
   simp only[AV.c9]
   split
   ·rename_i he
    exact main (by rw[T.at_];exact he)
   ·exact vN (lY h2)
   ·split
    ·rename_i he
     exact main (by rw[T.bJ];exact he)
    ·exact vN (lY h2)
 | mp k q =>
  intro m vs H
  have H:∃own r z len,bM (g0::F) k q=some (own,.map (some r),z,len)∧vs=[.map (some r)]:=by cases m<;>exact H
  obtain⟨own,r,z,len,h1,rfl⟩:=H
  cases k with
  | succ k=>cases m<;>exact⟨own,r,z,len,by simpa[bM,AV.c9] using h1,rfl⟩
  | zero=>exact vN rfl
 | cA z s ex=>intro m vs H;exact Rl.still (av:=.cA z s ex) H hI rfl
 | fP d=>intro m vs H;exact Rl.still (av:=.fP d) H hI rfl
 | nil=>intro m vs H;cases m<;>exact H
 | cons a t kz bO =>
  intro m vs H
  cases m
  ·obtain⟨v1,v2,h1,h2,h3⟩:=H
   exact⟨v1,v2,h1,kz h2,bO h3⟩
  ·obtain⟨v1,v2,h1,h2,h3⟩:=H
   exact⟨v1,v2,h1,kz h2,bO h3⟩
 | agg s ih =>
  intro m vs H
  cases m
  ·exact ih (m:=false) H
  ·obtain⟨cs,h1,h2⟩:=H
   exact⟨cs,h1,ih h2⟩
 | cT s ih =>
  intro m vs H
  cases m
  ·exact H
  ·obtain⟨cs,h1,h2⟩:=H
   exact⟨cs,h1,ih h2⟩
 | fn f s ih =>
  intro m vs H
  cases m<;>(obtain⟨cs,h1,h2⟩:=H;exact⟨cs,h1,ih h2⟩)
theorem nS(κ:List (Nat×Path))(k:Nat)(q:Path)(s:Bool):dead (κ.map fun e=>(e.1+1,e.2)) (k+1) q s=dead κ k q s:=by
 induction κ with
 | nil=>rfl
 | cons e κ ih=>simp only[dead,List.map_cons,List.any_cons] at ih ⊢;rw[ih];simp
theorem ai.aeM{P:Program}{f:FuncId}{d0:D}{Y:List D}{t:AV}{R:AV→List D→List (Nat×Path)→Prop}(h:ai P f Y (t.c9 d0) R)
  (hR:∀av X κ,R av X κ→av.plain=true∧(∀x∈X,x.di=true)) :
  ai P f (d0::Y) t fun av X κ=>∃Kg X0 κ0,R Kg X0 κ0∧av=Kg.kO [] 1∧X=d0::X0∧κ=κ0.map fun e=>(e.1+1,e.2):=by
 refine⟨h.1,fun w I F0 vs hY hH hnd hap hlt hil hvs=>?_⟩
 obtain⟨g0,FY,rfl⟩:∃g0 FY,F0=g0::FY:=by
  cases F0 with
  | nil=>simp at hY
  | cons g0 l=>exact⟨g0,l,rfl⟩
 simp only[List.map_cons,List.cons.injEq] at hY
 obtain⟨hY,hYs⟩:=hY
 have nE:=hH g0 (by simp)
 have kG:∀F:List G,own (g0::F)=own [g0]++own F:=fun F=>by simp[own]
 have hog:own [g0]=g0.owned:=by simp[own]
 rw[kG] at hnd hap hlt
 obtain⟨ad1,aaj,RA⟩:=List.nodup_append.1 hnd
 have pE:=hvs.c9 (I':=fun b'=>I b'∨b'∈own [g0]) nE (fun _ h=>.inl h) (fun b hb=>.inr (by rw[hog];exact hb))
 rw[hY] at pE
 refine Calls.mono (h.2 w _ FY vs hYs (fun g' hg'=>(hH g' (by simp[hg'])).agree (fun _ _=>rfl) (fun _ _=>rfl) fun _ h=>.inl h) aaj
  (fun b' hb h'=>h'.elim (hap b' (by simp[hb])) fun h'=>RA b' h' b' hb rfl) (fun b' hb=>hlt b' (by simp[hb])) (fun b' hb=>hb.elim (hil b') fun h'=>hlt b' (by simp[h'])) pE) fun e w' he=>?_
 obtain⟨v',av,X,κ,I',F',rfl,hRR,hi,hr⟩:=he
 obtain⟨hp,hX⟩:=hR _ _ _ hRR
 have hframe:∀b',b'<w.heap.size→b'∉own FY→w'.heap[b']? = w.heap[b']?:=fun b' hb hn=>hi.frame b' hb hn
 have tS:∀b'∈own F',b'<w.heap.size→b'∈own FY:=fun b' hb h'=>hi.fresh b' hb h'
 have abN:∀b'∈own [g0],w'.heap[b']? = w.heap[b']?:=fun b' hb=>hframe b' (hlt b' (by simp[hb])) fun h'=>RA b' hb b' h' rfl
 refine⟨v',av.kO [] 1,d0::X,κ.map fun e=>(e.1+1,e.2),I,g0::F',rfl,⟨av,X,κ,hRR,rfl,rfl,rfl⟩,⟨?_,?_,?_,?_,?_,?_,hi.os,hi.tape,hi.output,hi.size,?_,?_,fun _ hb=>hb,fun _ hb=>.inl hb,?_⟩,hr.shift (g0:=g0) hp⟩
 ·simp[hY,hi.erase]
 ·intro g' hg'
  rcases List.mem_cons.1 hg' with rfl|hg'
  ·exact nE.agree (fun b' hb=>abN b' (by simpa[own] using hb)) (fun b' hb=>hframe b' (hil b' hb) fun h'=>hap b' (by simp[h']) hb) fun _ h=>h
  ·refine(hi.holds g' hg').own ?_
   rw[←T.Ca]
   exact hX _ (by rw[←hi.erase];exact List.mem_map_of_mem hg')
 ·rw[kG]
  refine List.nodup_append.2 ⟨ad1,hi.nodup,fun x hx y hy hxy=>?_⟩
  subst hxy
  exact RA x hx x (tS x hy (hlt x (by simp[hx]))) rfl
 ·intro b' hb
  rw[kG] at hb
  rcases List.mem_append.1 hb with hb|hb
  ·exact hap b' (by simp[hb])
  ·intro hI
   exact hap b' (by simp[tS b' hb (hil b' hI)]) hI
 ·intro b' hb
  rw[kG] at hb
  rcases List.mem_append.1 hb with hb|hb
  ·exact Nat.lt_of_lt_of_le (hlt b' (by simp[hb])) hi.size
  ·exact hi.lt b' hb
 ·exact fun b' hb=>Nat.lt_of_lt_of_le (hil b' hb) hi.size
 ·intro b' hb hn
  rw[kG] at hn
  exact hframe b' hb fun h'=>hn (by simp[h'])
 ·intro b' hb hlt'
  rw[kG] at hb ⊢
  rcases List.mem_append.1 hb with hb|hb
  ·simp[hb]
  ·simp[tS b' hb hlt']
 ·intro k g1 hk
  cases k with
  | zero =>
   simp only[List.getElem?_cons_zero,Option.some.injEq] at hk
   subst hk
   exact⟨_,rfl,rfl,fun _ _=>rfl,fun _ _=>rfl,fun _ _ h _=>h⟩
  | succ k =>
   simp only[List.getElem?_cons_succ] at hk
   obtain⟨g',q1,q2,q3,q4,q5⟩:=hi.base k g1 hk
   exact⟨g',by simpa using q1,q2,fun q hq=>q3 q (by rwa [nS] at hq),fun q hq=>q4 q (by rwa [nS] at hq),fun q v hv hq=>q5 q v hv (by rwa [nS] at hq)⟩
theorem ai.ac6{P:Program}{f:FuncId}{d0:D}{Y:List D}{t:AV}{R:AV→List D→List (Nat×Path)→Prop}(h:ai P f Y (t.c9 d0) R)
  (hR:∀av X κ,R av X κ→av.plain=true∧(∀x∈X,x.di=true)∧κ=[]) :
  ai P f (d0::Y) t fun av X κ=>∃Kg X0,R Kg X0 []∧av=Kg.kO [] 1∧X=d0::X0∧κ=[] :=
 ai.mono (ai.aeM h fun av X κ hh=>⟨(hR _ _ _ hh).1,(hR _ _ _ hh).2.1⟩) fun av X κ ⟨Kg,X0,κ0,h1,h2,h3,h4⟩=>by
  obtain rfl:=(hR _ _ _ h1).2.2
  exact⟨Kg,X0,h1,h2,h3,h4⟩
def AV.fy:AV→AV
 | .bE z=>.cA z .nil true
 | .cons a t=>.cons a.fy t.fy
 | .agg s=>.agg s.fy
 | .cT s=>.cT s.fy
 | .fn f s=>.fn f s.fy
 | a=>a
theorem Rl.fy{h:Array Obj}{I:Nat→Prop}{F:List G}{av:AV}:∀{m:Bool} {vs:List Value},Rl h I F av m vs→Rl h I F av.fy m vs:=by
 induction av with
 | bE z =>
  intro m vs H
  have H:vs=[.slice none 0 0]:=by cases m<;>exact H
  subst H
  have hr:rB h I z .nil true (.slice none 0 0):=⟨.nil,rfl,⟨trivial,trivial,fun _=>rfl,rfl,rfl,rfl⟩,fun _ A n c e=>by cases e;rfl⟩
  cases m<;>exact⟨_,rfl,hr⟩
 | cons a t kz bO =>
  intro m vs H
  cases m
  ·obtain⟨v1,v2,h1,h2,h3⟩:=H
   exact⟨v1,v2,h1,kz h2,bO h3⟩
  ·obtain⟨v1,v2,h1,h2,h3⟩:=H
   exact⟨v1,v2,h1,kz h2,bO h3⟩
 | agg s ih =>
  intro m vs H
  cases m
  ·exact ih (m:=false) H
  ·obtain⟨cs,h1,h2⟩:=H
   exact⟨cs,h1,ih h2⟩
 | cT s ih =>
  intro m vs H
  cases m
  ·exact H
  ·obtain⟨cs,h1,h2⟩:=H
   exact⟨cs,h1,ih h2⟩
 | fn f s ih =>
  intro m vs H
  cases m<;>(obtain⟨cs,h1,h2⟩:=H;exact⟨cs,h1,ih h2⟩)
 | _=>intro m vs H;exact H
theorem ai.fy{P:Program}{f:FuncId}{Y:List D}{t:AV}{R:AV→List D→List (Nat×Path)→Prop}(h:ai P f Y t.fy R):ai P f Y t R :=
 ⟨h.1,fun w I F0 vs h1 h2 h3 h4 h5 h6 h7=>h.2 w I F0 vs h1 h2 h3 h4 h5 h6 h7.fy⟩
end Go.Vc

namespace Go.Vc
set_option linter.all false
section
variable {c:Cx} {l:List Code} {K:Exit→St→Prop} {st:St}
def uX (c:Cx) (l:List Code) (K:Exit→St→Prop) (ts:List Tmp) (st:St):Prop:=VS c l K (st.keep ts)
theorem wS(ts:List Tmp):uX c l K ts st=VS c l K (st.keep ts):=by rw[uX]
def RU:=@wS
attribute [simp] RU
attribute [irreducible] uX
@[congr] theorem Mc{ts:List Tmp}{st':St}(h:tick st=st'):uX c l K ts st=uX c l K ts st':=by rw[bl] at h;rw[h]
@[congr] theorem RV{st':St}(h:tick st=st'):VS c l K st=VS c l K st':=by rw[bl] at h;rw[h]
theorem Rel.keep{a w}(hr:Rel c st a w)(ts:List Tmp):Rel c (st.keep ts) a w:=by
 obtain⟨h1,h2,I,F,hi,he,hp⟩:=hr
 exact⟨h1,h2,I,F,hi,fun t=>by
  rcases qi st.env t ts with h'|h'
  ·show Rl _ _ _ (look (ts.map _) t) true _
   rw[h'];exact wT
  ·show Rl _ _ _ (look (ts.map _) t) true _
   rw[h'];exact he t,hp⟩
theorem jN{x:Code}:VS c (x::l) K st=VC c x (eN (VS c l K) K) st:=by with_unfolding_all rfl
theorem VC.kX{x:Code}{post:List Tmp}(h:VC c x (eN (uX c l K post) K) st):VC c x (eN (VS c l K) K) st :=
 VC.mono' h fun e st a w hk hr=>by
  cases e with
  | normal =>
   have hk':uX c l K post st:=hk
   rw[wS] at hk'
   exact⟨_,hk',hr.keep post⟩
  | _=>exact⟨_,hk,hr⟩
theorem VS.rg{τ:bg}(hτ:bg.Ok c.P τ)(id:Nat){ops:List Oper}(pre post:List Tmp)(gs:List (Nat×Tmp))(h:eL c τ gs ops 0 (st.keep pre) (uX c l K post))(hd:kE c.nt ops gs=true):VS c (.region id ops.toArray false::l) K st:=by
 refine VS.tW id pre ?_
 rw[jN]
 exact VC.kX (VC.region hτ gs hd h)
theorem VS.dr{P:Program}{nt:Nat}{w0:World}{I0:Nat→Prop}{F0:List G}{τ:bg}(hτ:bg.Ok P τ)(hm:P.follows .mixedOrders=true)(id:Nat){ops:List Oper}(EM:Nat)(pre post:List Tmp)(gs:List (Nat×Tmp))(T:List Rw)(p:bY)(o:OP)
  (h:cg ⟨P,nt,w0,I0,F0⟩ τ gs ops o (st.keep pre) (uX ⟨P,nt,w0,I0,F0⟩ l K post))
  (hT:ops.map (rowOf ops.toArray)=T) (hok:gm EM nt ops gs T p=true) (ho:lH EM p=o):VS ⟨P,nt,w0,I0,F0⟩ (.region id ops.toArray true::l) K st:=by
 refine VS.tW id pre ?_
 rw[jN]
 exact VC.kX (VC.tY hτ hm EM gs T p o hT hok ho h)
theorem n1{a b:Code}(h:VS c (a::b::l) K st):VS c (.seq a b::l) K st:=VS.seq h
theorem n2(h:VS c l K st):VS c (.skip::l) K st:=VS.skip h
theorem n3{id:Nat}{x:Code}(h:VS c [x] (jd id (VS c l K) K) st):VS c (.block id x::l) K st:=VS.block h
theorem n4(h:K .normal st):VS c [] K st:=VS.nil h
variable {id:Nat} {N:St→Prop} {nb n:Nat} {J:Nat→St→Prop}
theorem n5(h:N st):jd id N K .normal st:=h
theorem n6(h:aO nb J n st):DY nb J n K .normal st:=h
theorem n7{i:Nat}(h:K (.exit i) st):VS c (.exit i::l) K st:=VS.exit h
theorem n8(h:N st):jd id N K (.exit id) st:=JG h
theorem n9{j:Nat}(h:K (.exit j) st)(hj:j≠id:=by decide):jd id N K (.exit j) st:=Fq hj h
theorem n0{j:Nat}(h:K (.exit j) st):DY nb J n K (.exit j) st:=h
theorem nr(h:K .ret st):VS c (.ret::l) K st:=VS.ret h
theorem aF(h:K .ret st):jd id N K .ret st:=h
theorem aG(h:K .ret st):DY nb J n K .ret st:=h
theorem nc{x:Operand}{t f:Code}(h:lT (st.ev x) (VS c (t::l) K st) (VS c (f::l) K st)):VS c (.cond x t f::l) K st:=VS.cond h
theorem eP{x:Code}(k:Nat)(q:Path)(h:(k<st.X.length∧(st.tree k).dU q=true∧isNode ((st.tree k).at_ q)=true∧T.noEntry true (st.tree k) q=true)∧VS c (x::l) K (st.lift c.F0.length k q)):VS c (x::l) K st:=VS.lift k q h.1.1 h.1.2.1 h.1.2.2.1 h.1.2.2.2 h.2
end
theorem nD:(∀(c:Cx) (τ:bg) (gs:List (Nat×Tmp)) (ops:List Oper) (l:List Nat) (p:OP) (st:St) (K:St→Prop),cg c τ gs ops (.run l p) st K=jq c τ gs (fQ ops l) st fun st=>cg c τ gs ops p st K) ∧
  (∀(c:Cx) (τ:bg) (gs:List (Nat×Tmp)) (ops:List Oper) (p q:OP) (st:St) (K:St→Prop),cg c τ gs ops (.both p q) st K=(cg c τ gs ops p st K∧cg c τ gs ops q st K)) ∧
  (∀(c:Cx) (τ:bg) (gs:List (Nat×Tmp)) (ops:List Oper) (i:Nat) (p:OP) (st:St) (K:St→Prop),cg c τ gs ops (.eS i p) st K=(ov τ st (ops[i]?)∧cg c τ gs ops p st K)) ∧
  (∀(c:Cx) (τ:bg) (gs:List (Nat×Tmp)) (ops:List Oper) (st:St) (K:St→Prop),cg c τ gs ops .done st K=K st) ∧
  (∀(c:Cx) (τ:bg) (gs:List (Nat×Tmp)) (ops:List Oper) (st:St) (K:St→Prop),cg c τ gs ops .yes st K=True) ∧
  (∀ops:List Oper,fQ ops []=[])∧(∀(ops:List Oper) (i:Nat) (l:List Nat),fQ ops (i::l)=(i,ops[i]?)::fQ ops l) ∧
  (∀(a:Oper) (l:List Oper),(a::l)[0]? = some a)∧∀(a:Oper) (l:List Oper) (n:Nat),(a::l)[n+1]? = l[n]? :=
 ⟨fun _ _ _ _ _ _ _ _=>O7,fun _ _ _ _ _ _ _ _=>JD,fun _ _ _ _ _ _ _ _=>O6,fun _ _ _ _ _ _=>JE,fun _ _ _ _ _ _=>O8,fun _=>rfl,fun _ _ _=>rfl,fun _ _=>rfl,fun _ _ _=>rfl⟩
theorem ai.go{c:Cx}{f:FuncId}{Y:List D}{args:AV}{R:AV→List D→List (Nat×Path)→Prop}(h:ai c.P f Y args R){st:St}{me:AV}{K:AV→St→Prop}(aC:List (Nat×Path))
  (hc:(aC.map (·.1)).Nodup∧eU st aC Y∧args.kO aC st.X.length=me∧args.fH aC.length=true∧(aC=[]∨me.still=false)) (hK:∀av X κ,R av X κ→K (av.kO aC st.X.length) (st.after c.F0.length aC X κ)):bx c f me st K :=
 h.call aC hc.1 hc.2.1 hc.2.2.1 hc.2.2.2.1 hc.2.2.2.2 hK
theorem ak.o{nb:Nat}{τ:bg}{rs:List ResultVar}{R:AV→List D→List (Nat×Path)→Prop}{e:Exit}{st:St}(ts:List Tmp)(cw:List Nat)(κ':List (Nat×Path))(h:(iF nb st.X.length cw=true∧st.κ.all (aa κ')=true) ∧
  an τ rs R e { st.pick ts cw with κ:=κ' }):ak nb τ rs R e st:=⟨ts,cw,κ',h.1.1,h.1.2,h.2⟩
theorem aO.o{nb:Nat}{J:Nat→St→Prop}{n:Nat}{st:St}(ts:List Tmp)(cw:List Nat)(m:Nat)(h:(m<n∧iF nb st.X.length cw=true)∧J m (st.pick ts cw)):aO nb J n st:=aO.of ts cw m h.1.1 h.1.2 h.2
theorem Ty.Ok.fE{P:Program}{t:TypeId}{y:Ty}(i:TypeInfo)(z:Value){b:Bool}{n:Nat}{g:G}(hl:y.ld=some (b,n))(hz:y.zero=some g)
  (h1:P.info? t=some i:=by kernel_rfl) (h2:i.zero=some z:=by kernel_rfl) (h3:gN g=true:=by kernel_rfl) (h4:z.cells.toList=g.cells:=by kernel_rfl)
  (h5:T.j9 z=T.gM g:=by kernel_rfl) (h6:xp P t=b:=by kernel_rfl) (h7:(P.underlying t).isSome=true:=by kernel_rfl) (h8:i.size=n:=by kernel_rfl)
  (sl:∀e z cL zv,y.sl=some (e,z,cL,zv)→P.underlying t=some (.slice e)∧∃i,P.info? e=some i∧i.zero=some zv∧i.size=z∧i.bytes=cL∧zv.cells.size=z:=by intro e z b v h;cases h)
  (st:∀l,y.st=some l→∃fs,P.underlying t=some (.struct fs)∧fs.toList.map (fun f=>(f.offset,P.cellsOf f.type))=l∧(∀f∈fs.toList,(P.info? f.type).isSome=true)∧l.all (fun x=>x.2 != 0)=true:=by intro l h;cases h)
  (ar:∀n z,y.ar=some (n,z)→∃e,P.underlying t=some (.array n e)∧∃i,P.info? e=some i∧i.size=z:=by intro n z h;cases h)
  (int:∀k,y.int=some k→P.underlying t=some (.int k):=by intro k h;cases h)
  (ptr:y.ptr=true→∃e,P.underlying t=some (.pointer e):=by intro h;cases h)
  (str:y.str=true→P.underlying t=some .string:=by intro h;cases h)
  (bool:y.bool=true→P.underlying t=some .bool:=by intro h;cases h)
  (mp:∀e kd,y.mp=some (e,kd)→∃k,P.underlying t=some (.map k e)∧yh P k kd.is:=by intro e k h;cases h)
  (ae:y.ae=true→∃n e,P.underlying t=some (.array n e)∧xp P e=false∧(P.underlying e).isSome=true:=by intro h;cases h):y.Ok P t where
 sl:=sl
 ld:=by intro b' n' h;rw[hl] at h;cases h;exact⟨h6,h7,i,h1,h8⟩
 zero:=by intro g' h;rw[hz] at h;cases h;exact⟨h3,i,z,h1,h2,h4⟩
 aej:=by intro g' h;rw[hz] at h;cases h;exact⟨i,z,h1,h2,h5⟩
 st:=st
 ar:=ar
 int:=int
 ptr:=ptr
 str:=str
 bool:=bool
 mp:=mp
 ae:=ae
theorem Ty.Ok.okN{P:Program}{t:TypeId}:({}:Ty).Ok P t :=
 ⟨(by intro e z b v h;cases h),(by intro b n h;cases h),(by intro g h;cases h),(by intro g h;cases h),(by intro l h;cases h),(by intro n z h;cases h),(by intro k h;cases h),(by intro h;cases h),(by intro h;cases h),(by intro h;cases h),(by intro e k h;cases h),(by intro h;cases h)⟩
end Go.Vc
