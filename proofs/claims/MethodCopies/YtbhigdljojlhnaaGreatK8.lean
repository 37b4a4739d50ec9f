import Derived.Test.YtbhigdljojlhnaaGreatK3
import Derived.Shelf.SlMaps.Clone
import Derived.Test.YtbhigdljojlhnaaGreatK6
import Derived.Shelf.SlIter.Sorted
import Derived.Shelf.SlIter.AllValuesS
import Derived.Test.YtbhigdljojlhnaaGreatK5
import Derived.Shelf.SortM.Plain
import Derived.Shelf.SortM.SortNone
import Derived.Shelf.SlIter.Nil
import Derived.Test.YtbhigdljojlhnaaGreatK7
import Derived.Laws.BytesString
import Derived.Sort.Walk0
import Derived.Test.YtbhigdljojlhnaaGreatK4
import Derived.Maps.RangeRun
import Derived.Test.YtbhigdljojlhnaaGreatRows
import Derived.WalkKit
import Derived.ProofKit
import Derived.OpenShut
import Derived.ShutString
import Derived.ChangeOld
import Derived.Carry
namespace Go.Vc
set_option linter.all false
open Go.Proofs Go.Shelf Go.RowKit
open T (cM blk)
theorem aaa:∀g:G,g.erase.free=g.free:=by
 intro g
 induction g with
 | cons a t kz bO=>simp[T.erase,T.free,kz,bO]
 | agg s ih=>simp[T.erase,T.free,ih]
 | sl o a z s ih=>simp[T.erase,T.free,ih]
 | box o a s ih=>simp[T.erase,T.free,ih]
 | map o a s ih=>simp[T.erase,T.free,ih]
 | val v=>rfl
 | aH v=>rfl
 | nil=>rfl
theorem qI{w:World}{o:Obj}{b:Nat}(h:b<w.heap.size):(w.alloc o).heap[b]? = w.heap[b]?:=Below.heap_alloc _ _ b h
end Go.Vc

namespace Go.Vc
set_option linter.all false
open T (cM blk)
def oZ (P:Program) (f:FuncId) (Y:List D) (args:AV) (R:AV→List D→List (Nat×Path)→List (Nat×Path×AV)→Prop):Prop :=
 iX P f∧∀(w:World) (I:Nat→Prop) (F0:List G) (vs:List Value),F0.map T.erase=Y→(∀g∈F0,T.Holds w.heap I g)→(own F0).Nodup→(∀b∈own F0,¬I b)→(∀b∈own F0,b<w.heap.size) →
  (∀b,I b→b<w.heap.size)→Rl w.heap I F0 args true vs →
  Calls P f vs.toArray w fun e w'=>∃v av X κ pl I' F',e=.returned v∧R av X κ pl∧Inv ⟨P,0,w,I,F0⟩ X κ w' I' F'∧Rl w'.heap I' F' av true [v]∧dS pl w' I' F'
def VV (n n0:Nat) (aC:List (Nat×Path)) (pl:List (Nat×Path×AV)):List (Nat×Path×AV):=pl.map fun e=>(n0+(e.1-n),e.2.1,e.2.2.kO aC n0)
def St.cH (st:St) (pl:List (Nat×Path×AV)):St:={ st with pl:=pl++st.pl }
theorem Ry{w:World}{I:Nat→Prop}{F F':List G}{aC:List (Nat×Path)}(hn:(aC.map (·.1)).Nodup)
  (hok:∀e∈aC,e.1<F.length∧(F.getD e.1 .nil).dU e.2=true) {pl:List (Nat×Path×AV)} (hnew:∀e∈pl,aC.length≤e.1) (hp:dS pl w I F') :
  dS (VV aC.length F.length aC pl) w I (joined aC F' F):=fun k q av hm=>by
 obtain⟨⟨i,q',oK⟩,h1,h2⟩:=List.mem_map.1 hm
 cases h2
 obtain⟨g,v,g1,g2,g3⟩:=hp _ _ _ h1
 have hi:aC[i]? = none:=List.getElem?_eq_none (hnew _ h1)
 exact⟨g,v,by rw[q8 hi];exact g1,g2,sF hn hok oK g3⟩
theorem oZ.call{c:Cx}{f:FuncId}{Y:List D}{args:AV}{R:AV→List D→List (Nat×Path)→List (Nat×Path×AV)→Prop}(h:oZ c.P f Y args R){st:St}{me:AV}{K:AV→St→Prop}(aC:List (Nat×Path))
  (hn:(aC.map (·.1)).Nodup) (oE:eU st aC Y) (ha:args.kO aC st.X.length=me) (hok:args.fH aC.length=true)
  (hx:aC=[]∨me.still=false) (hnew:∀av X κ pl,R av X κ pl→∀e∈pl,aC.length≤e.1)
  (hK:∀av X κ pl,R av X κ pl→K (av.kO aC st.X.length) ((st.after c.F0.length aC X κ).cH (VV aC.length st.X.length aC pl))):bx c f me st K:=by
 intro a w vs ⟨hd,hs,I,F,hi,he,hp,hxs⟩
 refine⟨h.1,?_⟩
 obtain⟨p1,p2,p3⟩:=gW oE
 have yd:F.length=st.X.length:=by rw[←hi.erase];simp
 have fD:∀k,st.tree k=(F.getD k .nil).erase:=fun k=>by
  rw[St.tree,←hi.erase,List.getD_eq_getElem?_getD,List.getElem?_map,List.getD_eq_getElem?_getD]
  cases F[k]? <;> rfl
 have gX:∀e∈aC,e.1<F.length∧(F.getD e.1 .nil).dU e.2=true∧T.noEntry false (F.getD e.1 .nil) e.2=true:=fun e he=>by
  obtain⟨h1,h2,h3,_⟩:=p2 e he
  rw[fD,T.gL] at h2
  rw[fD,T.eW] at h3
  exact⟨by omega,h2,h3⟩
 have pq:∀e∈aC,(F.getD e.1 .nil).dU e.2=true∧aW ((F.getD e.1 .nil).at_ e.2)=true:=fun e he=>by
  obtain⟨h1,h2,h3,h4⟩:=p2 e he
  rw[fD,←T.bJ,kP] at h4
  exact⟨(gX e he).2.1,h4⟩
 have hY:(nodes F aC).map T.erase=Y:=by
  rw[←p3,nodes,List.map_map]
  exact List.map_congr_left fun e he=>by simp only[Function.comp_apply,fD,T.bJ]
 subst ha
 have hargs:=pz pq args hok hxs
 have hsub:∀b,(own (nodes F aC)).count b≤(own F).count b:=fun b=>by
  have h3:=fN b aC (aC.map fun _=>T.nil) F hn (by simp) fun e he=>⟨(gX e he).1,(gX e he).2.1⟩
  have hz:(own (aC.map fun _=>(T.nil:G))).count b=0:=by rw[mX];rfl
  omega
 have hmem:∀b∈own (nodes F aC),b∈own F:=fun b hb=>by have:=hsub b;rw[aq] at *;omega
 refine Calls.mono (h.2 w I (nodes F aC) vs hY (fun g hg=>?_) (bu fun b=>Nat.le_trans (hsub b) (aS hi.nodup b)) (fun b hb=>hi.apart b (hmem b hb)) (fun b hb=>hi.lt b (hmem b hb)) hi.ic hargs) ?_
 ·simp only[nodes,List.mem_map] at hg
  obtain⟨e,he,rfl⟩:=hg
  have h1:=(gX e he).1
  refine T.Holds.at_ (hi.holds _ ?_) e.2
  rw[List.getD_eq_getElem?_getD,List.getElem?_eq_getElem h1];exact List.getElem_mem h1
 ·rintro e w' ⟨v,av,X,κ,pl,I',F',rfl,hR,hc,hv,hpn⟩
  have S:=jo.call hi hn gX hc
  have lF:∀e∈aC,e.1<F.length∧(F.getD e.1 .nil).dU e.2=true:=fun e he=>⟨(gX e he).1,(gX e he).2.1⟩
  have hres:=sF (F':=F') hn lF av hv
  have af3:=Ry hn lF (hnew av X κ pl hR) hpn
  have hold:=hp.step hi S
  refine⟨v,_,_,rfl,hK av X κ pl hR,⟨hd.step hi S,hs,I',joined aC F' F,?_,he.step hi S,?_,by rw[←yd];exact hres⟩,fun hst b hb=>?_⟩
  rotate_left
  ·rw[←yd]
   intro k q oK hm
   rcases List.mem_append.1 hm with hm|hm
   ·exact af3 k q oK hm
   ·exact hold k q oK hm
  ·rcases hx with hx|hx
   ·subst hx;exact hc.frame b hb (by simp[nodes,own])
   ·rw[hst] at hx;cases hx
  have h2:=hi.step S
  have q9:(joined aC F' F).map T.erase=(st.after c.F0.length aC X κ).X:=by
   simp only[joined,St.after,List.map_append,lJ,hi.erase,List.map_take,List.map_drop,hc.erase]
  rw[q9] at h2
  refine h2.iY fun k q s hk oG=>?_
  simp only[St.cH,St.after] at oG
  rw[aM,Bool.or_eq_false_iff] at oG ⊢
  refine⟨?_,oG.2⟩
  have h3:=oG.1
  unfold dead at h3 ⊢
  rw[List.any_eq_false] at h3 ⊢
  rintro⟨k0,q0⟩ hm hx
  refine h3 (k0,q0) (List.mem_filter.2 ⟨hm,?_⟩) hx
  simp only[Bool.and_eq_true,beq_iff_eq] at hx
  rw[←hx.1]
  exact Nat.ble_eq_true_of_le hk
theorem oZ.goQ{c:Cx}{f:FuncId}{Y:List D}{args:AV}{R:AV→List D→List (Nat×Path)→List (Nat×Path×AV)→Prop}(h:oZ c.P f Y args R){st:St}{me:AV}{K:AV→St→Prop}(aC:List (Nat×Path))
  (hc:(aC.map (·.1)).Nodup∧eU st aC Y∧args.kO aC st.X.length=me∧args.fH aC.length=true∧(aC=[]∨me.still=false)) (hnew:∀av X κ pl,R av X κ pl→∀e∈pl,aC.length≤e.1)
  (hK:∀av X κ pl,R av X κ pl→K (av.kO aC st.X.length) ((st.after c.F0.length aC X κ).cH (VV aC.length st.X.length aC pl))):bx c f me st K :=
 h.call aC hc.1 hc.2.1 hc.2.2.1 hc.2.2.2.1 hc.2.2.2.2 hnew hK
end Go.Vc

namespace Go.Vc
set_option linter.all false
open Go.Proofs Go.Shelf Go.RowKit Go.Maps
open T (cM blk)
theorem tV{P:Program}{w w':World}{I:Nat→Prop}{F0:List G}(hH:∀g∈F0,T.Holds w.heap I g)(hnd:(own F0).Nodup)(hap:∀b∈own F0,¬I b)(hlt:∀b∈own F0,b<w.heap.size)(hilt:∀b,I b→b<w.heap.size)
  (hB:Below w.heap.size w w') {v:Value} {L:List ByteArray} {t:TypeId} (hrow:w'.ownsRow w.heap.size t 1 v L.length (L.map Value.string)) :
  Inv ⟨P,0,w,I,F0⟩ (F0.map T.erase++[.sl true () 1 (strs L)]) [] w' I (F0++[.sl true v 1 (kF L)])∧Rl w'.heap I (F0++[.sl true v 1 (kF L)]) (.sub F0.length [] 0 L.length false) true [v]:=by
 have hnew:T.Holds w'.heap I (.sl true v 1 (kF L))∧(∀b∈own [T.sl true v 1 (kF L)],w.heap.size≤b∧b<w'.heap.size)∧(own [T.sl true v 1 (kF L)]).Nodup∧ku v 1 L.length 0 L.length false v:=by
  have hlen:=tU L
  rcases hrow.2 with ⟨rfl,hn⟩|⟨g,cap,cur,rfl,hbase,hg,r1,r2,r3,r4⟩
  ·refine⟨⟨mz _ _ _,qd _,(fun h=>by cases h),rfl,rfl,by rw[hlen,hn]⟩,?_,?_,none,0,by rw[hn],by omega,by omega,by omega,(fun h=>by cases h),rfl,rfl⟩
   ·intro b hb;simp[own,T.owned,gC,T.blk] at hb
   ·simp[own,T.owned,gC,T.blk]
  ·have hgl:g<w'.heap.size:=(Array.getElem?_eq_some_iff.1 hg).1
   cases cap with
   | zero =>
    have hL0:L.length=0:=by omega
    refine⟨⟨mz _ _ _,qd _,(fun h=>by cases h),by omega,(fun _=>rfl),by rw[hlen];exact hL0⟩,?_,?_,some ⟨g,0,none⟩,0,rfl,by omega,by omega,by omega,(fun h=>by cases h),⟨g,0,none⟩,rfl,rfl,rfl,by omega,by omega,by omega⟩
    ·intro b hb;simp[own,T.owned,gC,T.blk] at hb
    ·simp[own,T.owned,gC,T.blk]
   | succ c =>
    have GP:maxLen=2 ^ 63-1:=rfl
    refine⟨⟨mz _ _ _,qd _,(fun h=>by cases h),rfl,by rw[hlen],by omega,by omega,(fun h=>by cases h),cur,t,(0,0),hg,(fun _=>rfl),(by show 0+(c+1)*1≤cur.size;omega),?_⟩,?_,?_,some ⟨g,0,none⟩,c+1,rfl,by omega,by omega,by omega,(fun h=>by cases h),⟨g,0,none⟩,rfl,rfl,rfl,by omega,Nat.le_refl _,fun _=>rfl⟩
    ·intro j v hj
     rw[uH] at hj
     have hjl:j<L.length:=by
      rcases Nat.lt_or_ge j L.length with h|h
      ·exact h
      ·rw[List.getElem?_eq_none (by simpa using h)] at hj;cases hj
     have e:(cur.toList.take (L.length*1))[j]? = cur.toList[j]?:=List.getElem?_take_of_lt (by omega)
     rw[←r4,e,Array.getElem?_toList] at hj
     rw[show (0:Nat)+j=j by omega];exact hj
    ·intro b hb
     simp[own,T.owned,gC,T.blk] at hb
     subst hb;exact⟨hbase,hgl⟩
    ·simp[own,T.owned,gC,T.blk]
 obtain⟨n1,n2,n3,n4⟩:=hnew
 refine⟨⟨?_,?_,?_,?_,?_,?_,hB.os,hB.tape,hB.output,hB.size,fun b hb _=>hB.block b hb,?_,fun _ h=>h,fun b h=>.inl h,?_⟩,?_⟩
 ·simp[T.erase,uG]
 ·intro g hg
  rcases List.mem_append.1 hg with hg|hg
  ·exact(hH g hg).agree (fun b hb=>hB.block b (hlt b (List.mem_flatMap.2 ⟨g,hg,hb⟩))) (fun b hb=>hB.block b (hilt b hb)) fun _ h=>h
  ·rw[List.mem_singleton.1 hg];exact n1
 ·rw[fO]
  refine List.nodup_append.2 ⟨hnd,n3,fun a ha b hb e=>?_⟩
  have h1:=hlt a ha
  have h2:=(n2 b hb).1
  omega
 ·rw[fO]
  intro b hb hI
  rcases List.mem_append.1 hb with hb|hb
  ·exact hap b hb hI
  ·have h1:=hilt b hI
   have h2:=(n2 b hb).1
   omega
 ·rw[fO]
  intro b hb
  rcases List.mem_append.1 hb with hb|hb
  ·exact Nat.lt_of_lt_of_le (hlt b hb) hB.size
  ·exact(n2 b hb).2
 ·exact fun b hb=>Nat.lt_of_lt_of_le (hilt b hb) hB.size
 ·rw[fO]
  intro b hb hlt'
  rcases List.mem_append.1 hb with hb|hb
  ·exact hb
  ·exact absurd (n2 b hb).1 (Nat.not_le.2 hlt')
 ·intro k g0 hk
  have mc:=(List.getElem?_eq_some_iff.1 hk).1
  exact⟨g0,by rw[List.getElem?_append_left mc];exact hk,rfl,fun _ _=>rfl,fun _ _=>rfl,fun _ _ h _=>h⟩
 ·refine⟨true,v,1,L.length,v,?_,rfl,n4⟩
  rw[bM,List.getElem?_append_right (Nat.le_refl _)]
  simp[T.at_,cM,tU]
def mj:D→List ByteArray→Prop
 | .nil,[]=>True
 | .cons (.agg (.cons K (.cons _ .nil))) t,k::ks=>K=.val (.string k)∧mj t ks
 | _,_=>False
theorem nR:∀{es:List MapEntry} {s:G} {ks:List ByteArray},T.aD es s→mj s.erase ks→es.map (·.key)=ks.map Value.string
 | es,s,ks,h,hk=>by
  rcases bq h with ⟨rfl,rfl⟩|⟨e,es',v,t,rfl,rfl,h1,h2,h3⟩
  ·cases ks with
   | nil=>rfl
   | cons k ks=>exact hk.elim
  ·cases ks with
   | nil=>exact hk.elim
   | cons k ks =>
    obtain⟨k1,k2⟩:=hk
    rw[T.cN] at k1
    have k3:e.key=.string k:=T.dm (α:=Unit) k1
    rw[List.map_cons,List.map_cons,nR (by assumption) k2,k3]
theorem wD{l m:List (List UInt8)}(h:l.Perm m):(l.mergeSort fun x y=>decide (x≤y))=m.mergeSort fun x y=>decide (x≤y):=by
 have ht:∀a b c:List UInt8,decide (a≤b)=true→decide (b≤c)=true→decide (a≤c)=true:=fun a b c h1 h2=>decide_eq_true (List.le_trans (of_decide_eq_true h1) (of_decide_eq_true h2))
 have hT:∀a b:List UInt8,(decide (a≤b)||decide (b≤a))=true:=fun a b=>by
  rw[Bool.or_eq_true,decide_eq_true_eq,decide_eq_true_eq];exact List.le_total a b
 have hp:(l.mergeSort fun x y=>decide (x≤y)).Perm (m.mergeSort fun x y=>decide (x≤y)):=(List.mergeSort_perm _ _).trans (h.trans (List.mergeSort_perm _ _).symm)
 exact hp.eq_of_pairwise (fun a b _ _ h1 h2=>List.le_antisymm (of_decide_eq_true h1) (of_decide_eq_true h2)) (List.pairwise_mergeSort ht hT l) (List.pairwise_mergeSort ht hT m)
theorem zk(l:List ByteArray):((l.map ByteArray.toList).mergeSort fun x y=>decide (x≤y))=(l.mergeSort leB).map ByteArray.toList:=by
 refine(List.map_mergeSort fun a _ b _=>?_).symm
 show leB a b=_
 rw[leB,bytesLess_eq,←decide_not]
 exact decide_eq_decide.2 List.not_lt
theorem DB{F0:List G}{X:List D}(h:F0.map T.erase=X)(hl:X.length=1):∃g0,F0=[g0]:=by
 have:F0.length=1:=by rw[←hl,←h];simp
 rcases F0 with _|⟨g,_|⟨_,_⟩⟩
 ·simp at this
 ·exact⟨g,rfl⟩
 ·simp at this
theorem oZ.K5{P:Program}{ρ:Ren}(L:SlLaysZ.n7 P ρ)(hb:iX P (ρ.f 7))(o:Bool)(m:D) :
  oZ P (ρ.f 7) [.map o () m] (.cons (.mp 0 []) .nil) fun av X κ pl=>av=.fn (ρ.f 10) (.cons (.ptr 1 [.d]) .nil)∧X=[.map o () m,.box true () (.aH ())]∧κ=[]∧pl=[(1,[.d],.mp 0 [])]:=by
 refine⟨hb,fun w I F0 vs hY hH hnd hap hlt hilt hvs=>?_⟩
 obtain⟨g0,rfl⟩:=DB hY rfl
 obtain⟨a,s,rfl,hs⟩:∃a s,g0=.map o a s∧s.erase=m:=by
  simp only[List.map_cons,List.map_nil,List.cons.injEq,and_true] at hY
  cases g0<;>simp only[T.erase,reduceCtorEq,T.map.injEq] at hY
  obtain⟨rfl,_,h⟩:=hY
  exact⟨_,_,rfl,h⟩
 have hg:=hH _ (List.mem_singleton.2 rfl)
 obtain⟨v,vs',rfl,hv,WD⟩:=hvs
 obtain rfl:vs'=[]:=WD
 obtain⟨Md,r,z',len',hh,Kw⟩:=hv
 simp only[bM,List.getElem?_cons_zero,Option.bind_some,T.at_,cM,Option.some.injEq,Prod.mk.injEq] at hh
 obtain⟨rfl,rfl,rfl,rfl⟩:=hh
 simp only[List.cons.injEq,and_true] at Kw
 subst Kw
 refine(callsIn_wide.1 (AnyZ.keys_in L Fence.wide 5 trivial rfl (some r) w)).mono ?_
 rintro e' w' ⟨rfl,rfl⟩
 obtain⟨ob,ho⟩:∃ob,ob=Obj.cells #[.map (some r)] (ρ.t 23):=⟨_,rfl⟩
 have hsz:(w.alloc ob).heap.size=w.heap.size+1:=World.size_alloc _ _
 have hnew:(w.alloc ob).heap[w.heap.size]? = some ob:=World.alloc_heap_new w _
 have hold:∀b,b<w.heap.size→(w.alloc ob).heap[b]? = w.heap[b]?:=fun b hb=>qI hb
 rw[←ho]
 have Kx:own [T.map o (Value.map (some r)) s,T.box true (.pointer (some ⟨w.heap.size,0,none⟩)) (.aH (.map (some r)))]=own [T.map o (Value.map (some r)) s]++[w.heap.size]:=by simp[own,T.owned,T.blk]
 refine⟨.func (.func (ρ.f 10)) #[] #[.pointer (some ⟨w.heap.size,0,none⟩)],_,_,_,_,I,[.map o (.map (some r)) s,.box true (.pointer (some ⟨w.heap.size,0,none⟩)) (.aH (.map (some r)))],rfl,⟨rfl,rfl,rfl,rfl⟩,⟨?_,?_,?_,?_,?_,?_,rfl,rfl,rfl,?_,?_,?_,fun _ h=>h,fun b h=>.inl h,?_⟩,?_,?_⟩
 ·simp[T.erase,hs]
 ·intro g hg'
  simp only[List.mem_cons,List.not_mem_nil,or_false] at hg'
  rcases hg' with rfl|rfl
  ·exact hg.agree (fun b hb=>hold b (hlt b (by simpa[own] using hb))) (fun b hb=>hold b (hilt b hb)) fun _ h=>h
  ·refine⟨rfl,(fun h=>by cases h),rfl,(fun h=>by cases h),fun _=>⟨rfl,_,_,by rw[hnew,ho]⟩,_,_,_,by rw[hnew,ho],fun j v hj=>?_⟩
   cases j with
   | zero=>simpa[T.cells] using hj
   | succ j=>simp[T.cells] at hj
 ·rw[Kx]
  refine List.nodup_append.2 ⟨hnd,by simp,fun a ha b hb e=>?_⟩
  rw[List.mem_singleton.1 hb] at e
  have:=hlt a ha;omega
 ·rw[Kx]
  intro b hb
  rcases List.mem_append.1 hb with hb|hb
  ·exact hap b hb
  ·rw[List.mem_singleton.1 hb];exact fun h=>by have:=hilt _ h;omega
 ·rw[Kx,hsz]
  intro b hb
  rcases List.mem_append.1 hb with hb|hb
  ·have:=hlt b hb;omega
  ·rw[List.mem_singleton.1 hb];omega
 ·rw[hsz];intro b hb;have:=hilt b hb;omega
 ·show w.heap.size≤_
  rw[hsz];omega
 ·exact fun b hb _=>hold b hb
 ·rw[Kx]
  intro b hb hlt'
  rcases List.mem_append.1 hb with hb|hb
  ·exact hb
  ·rw[List.mem_singleton.1 hb] at hlt';exact absurd hlt' (Nat.lt_irrefl _)
 ·intro k g0 hk
  cases k with
  | succ k=>simp at hk
  | zero =>
   simp only[List.getElem?_cons_zero,Option.some.injEq] at hk
   subst hk
   exact⟨_,rfl,rfl,fun _ _=>rfl,fun _ _=>rfl,fun _ _ h _=>h⟩
 ·exact⟨[.pointer (some ⟨w.heap.size,0,none⟩)],rfl,_,_,rfl,⟨_,_,rfl,rfl⟩,rfl⟩
 ·intro k q av hm
  simp only[List.mem_singleton,Prod.mk.injEq] at hm
  obtain⟨rfl,rfl,rfl⟩:=hm
  exact⟨_,_,rfl,rfl,o,r,0,0,rfl,rfl⟩
theorem eR.CW{P:Program}{ρk ρs:Ren}(Lk:SlLaysZ.n10 P ρk)(Ls:SlLaysZ.n6 P ρs)(hb:iX P (ρs.f 6))(hsort:∀m,AnyZ.SortsIn P ρs Fence.wide m)
  (e9:∀args w,(callFunc (ρs.f 9) args).run P w=.ok (.enter (ρs.f 9) args) w) (eg:∀args w,(callFunc (ρk.f 10) args).run P w=.ok (.enter (ρk.f 10) args) w) (o:Bool) (m:D) (ks:List ByteArray) (hks:mj m ks)
  (hsz:∀k∈ks,k.size≤maxLen) (hl:ks.length≤1000000) :
  eR P (ρs.f 6) [.map o () m,.box true () (.aH ())] [(1,[.d],.mp 0 [])] (.cons (.fn (ρk.f 10) (.cons (.ptr 1 [.d]) .nil)) .nil)
   fun av X κ=>av=.sub 2 [] 0 ks.length false∧X=[.map o () m,.box true () (.aH ()),.sl true () 1 (strs (ks.mergeSort leB))]∧κ=[]:=by
 refine⟨hb,fun w I F0 vs hY hH hnd hap hlt hilt oE hvs=>?_⟩
 obtain⟨g0,g1,rfl⟩:∃g0 g1,F0=[g0,g1]:=by
  have:F0.length=2:=by have:=congrArg List.length hY;simpa using this
  match F0,this with
  | [a,b],_=>exact⟨a,b,rfl⟩
 obtain⟨a,s,rfl,hs⟩:∃a s,g0=.map o a s∧s.erase=m:=by
  simp only[List.map_cons,List.map_nil,List.cons.injEq,and_true] at hY
  have hY:=hY.1
  cases g0<;>simp only[T.erase,reduceCtorEq,T.map.injEq] at hY
  obtain⟨rfl,_,h⟩:=hY
  exact⟨_,_,rfl,h⟩
 have hg:=hH _ (List.mem_cons_self ..)
 have Ky:=hH g1 (by simp)
 obtain⟨g1',u,p1,p2,Md,r,z',len',hh,hu⟩:=oE 1 [.d] (.mp 0 []) (by simp)
 simp only[List.getElem?_cons_succ,List.getElem?_cons_zero,Option.some.injEq] at p1
 subst p1
 simp only[bM,List.getElem?_cons_zero,Option.bind_some,T.at_,cM,Option.some.injEq,Prod.mk.injEq] at hh
 obtain⟨rfl,rfl,rfl,rfl⟩:=hh
 simp only[List.cons.injEq,and_true] at hu
 subst hu
 obtain⟨q1,q2,_,es,c,hr,he,hst⟩:=id hg
 obtain⟨l,P0,v1,yc,rfl,uA,RZ⟩:∃l,vs=[.func (.func (ρk.f 10)) #[] l.toArray]∧∃v1 yc,l=v1::yc∧Rl w.heap I [T.map o (Value.map (some r)) s,g1] (.ptr 1 [.d]) true [v1]∧Rl w.heap I [T.map o (Value.map (some r)) s,g1] .nil true yc:=by
  obtain⟨v,vs',rfl,hv,WD⟩:=hvs
  obtain rfl:vs'=[]:=WD
  obtain⟨l,h1,v1,yc,h2,h3,h4⟩:=hv
  exact⟨l,h1,v1,yc,h2,h3,h4⟩
 obtain rfl:yc=[]:=RZ
 obtain⟨b1,o1,hl2,tJ⟩:=uA
 simp only[List.cons.injEq,and_true] at tJ
 subst tJ
 subst P0
 obtain⟨a1,u1,rfl⟩:∃a1 u1,g1=.box true a1 (.aH u1):=by
  have YV:g1.erase=.box true () (.aH ()):=by
   have h9:=hY
   simp only[List.map_cons,List.map_nil,List.cons.injEq] at h9
   exact h9.2.1
  cases g1<;>simp only[T.erase,reduceCtorEq,T.box.injEq] at YV
  rename_i o' a g
  obtain⟨rfl,_,h⟩:=YV
  cases g<;>simp only[T.erase,reduceCtorEq] at h
  exact⟨_,_,rfl⟩
 have Ck:u1=.map (some r):=by simpa[T.at_] using p2
 subst Ck
 obtain⟨_,_,h4⟩:=id Ky
 obtain⟨x,rfl,hx1,_,hx2,row,e,fr,hrow,hcell⟩:∃x,a1=.pointer (some x)∧x.spot=none∧(true=false→I x.block)∧(x.off=0)∧T.oz w.heap x.block x.off (T.aH (α:=Value) (.map (some r))).cells:=by
  split at h4
  ·obtain⟨k1,k2,k3,k4⟩:=h4
   exact⟨_,rfl,k1,k2,(k3 rfl).1,k4⟩
  ·exact h4.elim
 simp only[dF,List.getElem?_cons_succ,List.getElem?_cons_zero,Option.bind_some,T.loc,Option.some.injEq] at hl2
 have L3:b1=x.block∧o1=0:=by
  simp only[T.bQ,Option.some.injEq,Loc.abs.injEq] at hl2
  exact⟨hl2.1.symm,by omega⟩
 obtain⟨rfl,rfl⟩:=L3
 have hxs:x.block<w.heap.size:=(Array.getElem?_eq_some_iff.1 hrow).1
 have hm0:w.cell? ⟨x.block,0,none⟩=some (.map (some r)):=by
  have h1:=hcell 0 (.map (some r)) rfl
  rw[hx2] at h1
  simpa[World.cell?,hrow] using h1
 have hkeys:=nR he (hs▸hks)
 have hel:es.size=ks.length:=by
  have:=congrArg List.length hkeys
  simpa using this
 obtain⟨R,hR⟩:∃R:Value→Option (DataW Unit×List MemPlace),R=fun _=>some (.nil,[]):=⟨_,rfl⟩
 have hrd:∀y∈es.toList,∃k∈ks,y.key=.string k∧Go.WideElems.rd P (ρk.t 26) R y=some (.string k.toList,.nil):=fun y hy=>by
  have h1:y.key∈ks.map Value.string:=by rw[←hkeys];exact List.mem_map.2 ⟨y,hy,rfl⟩
  obtain⟨k,hk,e1⟩:=List.mem_map.1 h1
  refine⟨k,hk,e1.symm,?_⟩
  rw[Go.WideElems.rd,←e1,Go.WideMaps.keyOf_string_mk Lk.t26 (hsz k hk),hR,Go.ByteArray.toList_eq]
  rfl
 have aau:Go.WideElems.Fit P (ρk.t 26) R es c:=⟨by rw[hel];have:maxLen=2 ^ 63-1:=rfl;omega,hst,fun y hy=>by obtain⟨k,_,_,h⟩:=hrd y hy;exact⟨_,h⟩⟩
 obtain⟨D0,Vh⟩:∃D0:DataW Unit,D0=.map ((es.toList.map (Go.WideElems.rg P (ρk.t 26) R)).foldr DataW.insert []):=⟨_,rfl⟩
 have hown:w.ownsMap P (ρk.t 26) R r es.size D0:=⟨es,c,hr,aau,Nat.le_refl _,Vh⟩
 have hrg:(es.toList.map (Go.WideElems.rg P (ρk.t 26) R)).map (fun p=>strOf p.1)=ks.map ByteArray.toList:=by
  rw[List.map_map]
  have h1:∀y∈es.toList,((fun p=>strOf p.1) ∘ Go.WideElems.rg P (ρk.t 26) R) y=(match y.key with | .string k=>k.toList|_=>[]):=fun y hy=>by
   obtain⟨k,_,h2,h3⟩:=hrd y hy
   simp only[Function.comp_apply,Go.WideElems.rg,h3,Option.getD_some,h2,strOf]
  rw[List.map_congr_left h1]
  have h2:es.toList.map (fun y=>match y.key with | .string k=>k.toList|_=>[])=(es.toList.map (·.key)).map fun v=>(match v with | .string k=>k.toList|_=>[]):=by rw[List.map_map];rfl
  rw[h2,hkeys,List.map_map];rfl
 have hsk:(strKeys D0).Perm (ks.map ByteArray.toList):=by
  rw[Vh,←hrg]
  exact(Go.WideShapes.sorted_perm _).map _
 have hsize:Maps.size D0=ks.length:=by
  have:=hsk.length_eq
  rw[Vh] at this ⊢
  simpa[strKeys,Maps.size] using this
 have GP:maxLen=2 ^ 63-1:=rfl
 have hseq:SeqGives Fence.wide (5-1-1-1) P (ρk.f 10) #[.pointer (some ⟨x.block,0,none⟩)] encStr (fun ss=>ss.Perm (strKeys D0)) (Maps.size D0) w :=
  AnyZ.keys_gives Lk Fence.wide _ trivial rfl (by omega) x.block r es.size D0 w hxs hm0 hown
 refine(callsIn_wide.1 (AnyZ.sorted_in Ls Fence.wide 5 trivial trivial trivial trivial rfl (by omega) (hsort _) e9 (ρk.f 10) #[.pointer (some ⟨x.block,0,none⟩)] trivial eg _ _ (by omega) (by omega) w hseq)).mono ?_
 rintro e' w' ⟨v,ss,rfl,D1,lM,_,hB⟩
 obtain⟨L,hL⟩:∃L,L=ks.mergeSort leB:=⟨_,rfl⟩
 have hLl:L.length=ks.length:=by rw[hL,List.length_mergeSort]
 have aav:ss.length=L.length:=by rw[hLl,(D1.trans hsk).length_eq,List.length_map]
 have hmap:(ss.mergeSort fun x y=>decide (x≤y)).map encStr=L.map Value.string:=by
  rw[wD (D1.trans hsk),zk,←hL,List.map_map]
  exact List.map_congr_left fun k _=>Kq k
 rw[hmap,aav] at lM
 obtain⟨hi,hv⟩:=tV (P:=P) hH hnd hap hlt hilt hB lM
 rw[hY] at hi
 exact⟨v,_,_,_,I,_,rfl,⟨rfl,by rw[←hL];rfl,rfl⟩,hi,by rw[←hLl];exact hv⟩
theorem ai.aa2{P:Program}{ρ:Ren}(Ly:SlLaysW.n5 P ρ)(hb:iX P (ρ.f 5))(o:Bool)(m:D)(hm:m.free=true) :
  ai P (ρ.f 5) [.map o () m] (.cons (.mp 0 []) .nil) fun av X κ=>av=.mp 1 []∧X=[.map o () m,.map true () m]∧κ=[]:=by
 refine⟨hb,fun w I F0 vs hY hH hnd hap hlt hilt hvs=>?_⟩
 obtain⟨g0,rfl⟩:∃g0,F0=[g0]:=by
  rcases F0 with _|⟨g,_|⟨_,_⟩⟩
  ·simp at hY
  ·exact⟨g,rfl⟩
  ·simp at hY
 obtain⟨a,s,rfl,hs⟩:∃a s,g0=.map o a s∧s.erase=m:=by
  simp only[List.map_cons,List.map_nil,List.cons.injEq,and_true] at hY
  cases g0<;>simp only[T.erase,reduceCtorEq,T.map.injEq] at hY
  obtain⟨rfl,_,h⟩:=hY
  exact⟨_,_,rfl,h⟩
 have zY:s.owned=[]:=T.cG (by rw[←aaa,hs];exact hm)
 have hg:=hH _ (List.mem_singleton.2 rfl)
 obtain⟨q1,q2,q3⟩:=id hg
 obtain⟨r,es,c,rfl,hIr,hr,he⟩:∃r es c,a=.map (some r)∧(o=false→I r)∧w.heap[r]? = some (.map es c)∧T.aD es.toList s∧MapKept.Stamped es c:=by
  split at q3
  ·obtain⟨h0,es,c,h1,h2⟩:=q3
   exact⟨_,es,c,rfl,h0,h1,h2⟩
  ·exact q3.elim
 obtain⟨v,vs',rfl,hv,WD⟩:=hvs
 obtain rfl:vs'=[]:=WD
 obtain⟨Md,r',z',len',hh,Kw⟩:=hv
 simp only[bM,List.getElem?_cons_zero,Option.bind_some,T.at_,cM,Option.some.injEq,Prod.mk.injEq,Value.map.injEq] at hh
 obtain⟨rfl,rfl,rfl,rfl⟩:=hh
 simp only[List.cons.injEq,and_true] at Kw
 subst Kw
 have wq:r<w.heap.size:=(Array.getElem?_eq_some_iff.1 hr).1
 refine(AnyW.maps_Clone Ly r es c w hr).mono ?_
 rintro e' w' ⟨rfl,rfl⟩
 have hsz:(w.alloc (.map es c)).heap.size=w.heap.size+1:=World.size_alloc _ _
 have hown:own [T.map o (Value.map (some r)) s]=(bif o then [r] else []):=by cases o<;>simp[own,T.owned,zY,T.blk]
 have Kx:own [T.map o (Value.map (some r)) s,T.map true (Value.map (some w.heap.size)) s]=(bif o then [r] else [])++[w.heap.size]:=by cases o<;>simp[own,T.owned,zY,T.blk]
 rw[hown] at hnd hap hlt
 have hnew:(w.alloc (.map es c)).heap[w.heap.size]? = some (.map es c):=World.alloc_heap_new w _
 have Dk:T.Holds (w.alloc (.map es c)).heap I s:=q1.agree (by rw[zY];intro b hb;cases hb) (fun b hb=>qI (hilt b hb)) fun _ h=>h
 refine⟨.map (some w.heap.size),.mp 1 [],_,_,I,[.map o (.map (some r)) s,.map true (.map (some w.heap.size)) s],rfl,⟨rfl,rfl,rfl⟩,⟨?_,?_,?_,?_,?_,?_,rfl,rfl,rfl,?_,?_,?_,fun _ h=>h,fun b h=>.inl h,?_⟩,?_⟩
 ·simp[T.erase,hs]
 ·intro g hg'
  simp only[List.mem_cons,List.not_mem_nil,or_false] at hg'
  rcases hg' with rfl|rfl
  ·exact⟨Dk,q2,hIr,es,c,(qI wq).trans hr,he⟩
  ·exact⟨Dk,(fun h=>by cases h),(fun h=>by cases h),es,c,hnew,he⟩
 ·rw[Kx]
  cases o
  ·simp
  ·simp;omega
 ·rw[Kx]
  intro b hb
  rcases List.mem_append.1 hb with hb|hb
  ·exact hap _ hb
  ·rw[List.mem_singleton.1 hb];exact fun h=>by have:=hilt _ h;omega
 ·rw[Kx,hsz]
  intro b hb
  rcases List.mem_append.1 hb with hb|hb
  ·have:=hlt _ hb;omega
  ·rw[List.mem_singleton.1 hb];omega
 ·rw[hsz];intro b hb;have:=hilt b hb;omega
 ·show w.heap.size≤_
  rw[hsz];omega
 ·exact fun b hb _=>qI hb
 ·rw[Kx]
  intro b hb hlt'
  show b∈own [T.map o (Value.map (some r)) s]
  rw[hown]
  rcases List.mem_append.1 hb with hb|hb
  ·exact hb
  ·rw[List.mem_singleton.1 hb] at hlt';exact absurd hlt' (Nat.lt_irrefl _)
 ·intro k g0 hk
  cases k with
  | succ k=>simp at hk
  | zero =>
   simp only[List.getElem?_cons_zero,Option.some.injEq] at hk
   subst hk
   exact⟨_,rfl,rfl,fun _ _=>rfl,fun _ _=>rfl,fun _ _ h _=>h⟩
 ·exact⟨true,w.heap.size,0,0,rfl,rfl⟩
end Go.Vc

namespace Go.Proofs.YtbhigdljojlhnaaGreat
set_option linter.all false
open Go.Vc Go.Proofs Go Go.Shelf
set_option maxRecDepth 100000
def afZ:Ren where
 f:=fun x=>match x with
  | 5=>49
  | 7=>97
  | n=>n
 t:=fun x=>match x with
  | 23=>83
  | 25=>3
  | 3=>4
  | 4=>4
  | 20=>20
  | n=>n
 g:=fun n=>n
theorem adh:SlLaysW.n5 Tryz.prog afZ where
 mixed:=by kernel_rfl
 f5:=⟨Tryz.f49.name,by decide,Tryz.func49.trans (congrArg some (by kernel_rfl))⟩
 f7:=Tryz.func97.trans (congrArg some (by kernel_rfl))
 t4:=Tryz.underlying4
 a4:=Tryz.isAgg4
 z4:=Tryz.sizeOf4
 v4:=Tryz.zeroValue4
 t20:=Tryz.underlying20
 a20:=Tryz.isAgg20
 z20:=Tryz.sizeOf20
 v20:=Tryz.zeroValue20
 t23:=Tryz.underlying83
 a23:=Tryz.isAgg83
 z23:=Tryz.sizeOf83
 v23:=Tryz.zeroValue83
def af4:Ren where
 f:=fun x=>match x with
  | 5=>50
  | 7=>97
  | n=>n
 t:=fun x=>match x with
  | 23=>81
  | 25=>9
  | 3=>41
  | 4=>4
  | 20=>20
  | n=>n
 g:=fun n=>n
theorem ado:SlLaysW.n5 Tryz.prog af4 where
 mixed:=by kernel_rfl
 f5:=⟨Tryz.f50.name,by decide,Tryz.func50.trans (congrArg some (by kernel_rfl))⟩
 f7:=Tryz.func97.trans (congrArg some (by kernel_rfl))
 t4:=Tryz.underlying4
 a4:=Tryz.isAgg4
 z4:=Tryz.sizeOf4
 v4:=Tryz.zeroValue4
 t20:=Tryz.underlying20
 a20:=Tryz.isAgg20
 z20:=Tryz.sizeOf20
 v20:=Tryz.zeroValue20
 t23:=Tryz.underlying81
 a23:=Tryz.isAgg81
 z23:=Tryz.sizeOf81
 v23:=Tryz.zeroValue81
def Yz:Ren where
 f:=fun x=>match x with
  | 7=>86
  | 10=>120
  | n=>n
 t:=fun x=>match x with
  | 23=>129
  | 26=>9
  | 3=>4
  | 28=>123
  | 0=>0
  | 27=>122
  | 33=>116
  | 4=>4
  | n=>n
 g:=fun n=>n
theorem QE:SlLaysZ.n7 Tryz.prog Yz where
 mixed:=by kernel_rfl
 f7:=⟨Tryz.f86.name,by decide,Tryz.func86.trans (congrArg some (by kernel_rfl))⟩
 f10:=⟨Tryz.f120.name,by decide,Tryz.func120.trans (congrArg some (by kernel_rfl))⟩
 t0:=Tryz.underlying0
 a0:=Tryz.isAgg0
 z0:=Tryz.sizeOf0
 v0:=Tryz.zeroValue0
 t4:=Tryz.underlying4
 a4:=Tryz.isAgg4
 z4:=Tryz.sizeOf4
 v4:=Tryz.zeroValue4
 t23:=Tryz.underlying129
 a23:=Tryz.isAgg129
 z23:=Tryz.sizeOf129
 v23:=Tryz.zeroValue129
 t26:=Tryz.underlying9
 a26:=Tryz.isAgg9
 z26:=Tryz.sizeOf9
 v26:=Tryz.zeroValue9
 t27:=Tryz.underlying122
 a27:=Tryz.isAgg122
 z27:=Tryz.sizeOf122
 v27:=Tryz.zeroValue122
 t28:=Tryz.underlying123
 a28:=Tryz.isAgg123
 z28:=Tryz.sizeOf123
 v28:=Tryz.zeroValue123
 t33:=Tryz.underlying116
 a33:=Tryz.isAgg116
 z33:=Tryz.sizeOf116
 v33:=Tryz.zeroValue116
def QF:Ren where
 f:=fun x=>match x with
  | 7=>83
  | 10=>119
  | n=>n
 t:=fun x=>match x with
  | 23=>81
  | 26=>9
  | 3=>41
  | 28=>123
  | 0=>0
  | 27=>122
  | 33=>116
  | 4=>4
  | n=>n
 g:=fun n=>n
theorem Gh:SlLaysZ.n7 Tryz.prog QF where
 mixed:=by kernel_rfl
 f7:=⟨Tryz.f83.name,by decide,Tryz.func83.trans (congrArg some (by kernel_rfl))⟩
 f10:=⟨Tryz.f119.name,by decide,Tryz.func119.trans (congrArg some (by kernel_rfl))⟩
 t0:=Tryz.underlying0
 a0:=Tryz.isAgg0
 z0:=Tryz.sizeOf0
 v0:=Tryz.zeroValue0
 t4:=Tryz.underlying4
 a4:=Tryz.isAgg4
 z4:=Tryz.sizeOf4
 v4:=Tryz.zeroValue4
 t23:=Tryz.underlying81
 a23:=Tryz.isAgg81
 z23:=Tryz.sizeOf81
 v23:=Tryz.zeroValue81
 t26:=Tryz.underlying9
 a26:=Tryz.isAgg9
 z26:=Tryz.sizeOf9
 v26:=Tryz.zeroValue9
 t27:=Tryz.underlying122
 a27:=Tryz.isAgg122
 z27:=Tryz.sizeOf122
 v27:=Tryz.zeroValue122
 t28:=Tryz.underlying123
 a28:=Tryz.isAgg123
 z28:=Tryz.sizeOf123
 v28:=Tryz.zeroValue123
 t33:=Tryz.underlying116
 a33:=Tryz.isAgg116
 z33:=Tryz.sizeOf116
 v33:=Tryz.zeroValue116
def Yy:Ren where
 f:=fun x=>match x with
  | 6=>82
  | 8=>117
  | 9=>118
  | 11=>131
  | 13=>133
  | 12=>132
  | 23=>147
  | 24=>148
  | 14=>138
  | 15=>139
  | 16=>140
  | 17=>141
  | 18=>142
  | 19=>143
  | 20=>144
  | 21=>145
  | 22=>146
  | 25=>157
  | 26=>158
  | 27=>159
  | 28=>160
  | 29=>161
  | 30=>162
  | 31=>163
  | n=>n
 t:=fun x=>match x with
  | 26=>9
  | 28=>123
  | 24=>89
  | 0=>0
  | 3=>3
  | 37=>30
  | 48=>195
  | 50=>197
  | 4=>4
  | 40=>187
  | 39=>186
  | 45=>192
  | 5=>5
  | 9=>9
  | 51=>202
  | 55=>206
  | 57=>208
  | 58=>209
  | 33=>116
  | n=>n
 g:=fun n=>n
theorem Gg:SlLaysZ.n6 Tryz.prog Yy where
 mixed:=by kernel_rfl
 f6:=⟨Tryz.f82.name,by decide,Tryz.func82.trans (congrArg some (by kernel_rfl))⟩
 f8:=⟨Tryz.f117.name,by decide,Tryz.func117.trans (congrArg some (by kernel_rfl))⟩
 f11:=⟨Tryz.f131.name,by decide,Tryz.func131.trans (congrArg some (by kernel_rfl))⟩
 t0:=Tryz.underlying0
 a0:=Tryz.isAgg0
 z0:=Tryz.sizeOf0
 v0:=Tryz.zeroValue0
 t24:=Tryz.underlying89
 a24:=Tryz.isAgg89
 z24:=Tryz.sizeOf89
 v24:=Tryz.zeroValue89
 t26:=Tryz.underlying9
 a26:=Tryz.isAgg9
 z26:=Tryz.sizeOf9
 v26:=Tryz.zeroValue9
 t28:=Tryz.underlying123
 a28:=Tryz.isAgg123
 z28:=Tryz.sizeOf123
 v28:=Tryz.zeroValue123
 i26:=by kernel_rfl
def adR:Ren where
 f:=fun x=>match x with
  | 6=>118
  | 8=>133
  | 9=>132
  | 19=>147
  | 20=>148
  | 21=>138
  | 22=>139
  | 23=>140
  | 24=>141
  | 25=>142
  | 26=>143
  | 27=>144
  | 28=>145
  | 29=>146
  | 36=>157
  | 31=>158
  | 32=>159
  | 37=>160
  | 38=>161
  | 39=>162
  | 41=>163
  | n=>n
 t:=fun x=>match x with
  | 27=>89
  | 29=>9
  | 3=>3
  | 32=>30
  | 26=>89
  | 0=>0
  | 44=>195
  | 46=>197
  | 4=>4
  | 36=>187
  | 35=>186
  | 41=>192
  | 5=>5
  | 9=>9
  | 53=>202
  | 57=>206
  | 63=>208
  | 64=>209
  | n=>n
 g:=fun n=>n
theorem QC:SlLaysM.n6 Tryz.prog adR where
 mixed:=by kernel_rfl
 f6:=⟨Tryz.f118.name,by decide,Tryz.func118.trans (congrArg some (by kernel_rfl))⟩
 f8:=Tryz.func133.trans (congrArg some (by kernel_rfl))
 f9:=⟨Tryz.f132.name,by decide,Tryz.func132.trans (congrArg some (by kernel_rfl))⟩
 f19:=Tryz.func147.trans (congrArg some (by kernel_rfl))
 f20:=Tryz.func148.trans (congrArg some (by kernel_rfl))
 f21:=⟨Tryz.f138.name,by decide,Tryz.func138.trans (congrArg some (by kernel_rfl))⟩
 f22:=⟨Tryz.f139.name,by decide,Tryz.func139.trans (congrArg some (by kernel_rfl))⟩
 f23:=⟨Tryz.f140.name,by decide,Tryz.func140.trans (congrArg some (by kernel_rfl))⟩
 f24:=⟨Tryz.f141.name,by decide,Tryz.func141.trans (congrArg some (by kernel_rfl))⟩
 f25:=⟨Tryz.f142.name,by decide,Tryz.func142.trans (congrArg some (by kernel_rfl))⟩
 f26:=⟨Tryz.f143.name,by decide,Tryz.func143.trans (congrArg some (by kernel_rfl))⟩
 f27:=⟨Tryz.f144.name,by decide,Tryz.func144.trans (congrArg some (by kernel_rfl))⟩
 f28:=⟨Tryz.f145.name,by decide,Tryz.func145.trans (congrArg some (by kernel_rfl))⟩
 f29:=⟨Tryz.f146.name,by decide,Tryz.func146.trans (congrArg some (by kernel_rfl))⟩
 f31:=Tryz.func158.trans (congrArg some (by kernel_rfl))
 f32:=Tryz.func159.trans (congrArg some (by kernel_rfl))
 f36:=⟨Tryz.f157.name,by decide,Tryz.func157.trans (congrArg some (by kernel_rfl))⟩
 f37:=⟨Tryz.f160.name,by decide,Tryz.func160.trans (congrArg some (by kernel_rfl))⟩
 f38:=⟨Tryz.f161.name,by decide,Tryz.func161.trans (congrArg some (by kernel_rfl))⟩
 f39:=⟨Tryz.f162.name,by decide,Tryz.func162.trans (congrArg some (by kernel_rfl))⟩
 f41:=⟨Tryz.f163.name,by decide,Tryz.func163.trans (congrArg some (by kernel_rfl))⟩
 t0:=Tryz.underlying0
 a0:=Tryz.isAgg0
 z0:=Tryz.sizeOf0
 v0:=Tryz.zeroValue0
 t3:=Tryz.underlying3
 a3:=Tryz.isAgg3
 z3:=Tryz.sizeOf3
 v3:=Tryz.zeroValue3
 t4:=Tryz.underlying4
 a4:=Tryz.isAgg4
 z4:=Tryz.sizeOf4
 v4:=Tryz.zeroValue4
 t5:=Tryz.underlying5
 a5:=Tryz.isAgg5
 z5:=Tryz.sizeOf5
 v5:=Tryz.zeroValue5
 t9:=Tryz.underlying9
 a9:=Tryz.isAgg9
 z9:=Tryz.sizeOf9
 v9:=Tryz.zeroValue9
 t26:=Tryz.underlying89
 a26:=Tryz.isAgg89
 z26:=Tryz.sizeOf89
 v26:=Tryz.zeroValue89
 t27:=Tryz.underlying89
 a27:=Tryz.isAgg89
 z27:=Tryz.sizeOf89
 v27:=Tryz.zeroValue89
 t29:=Tryz.underlying9
 a29:=Tryz.isAgg9
 z29:=Tryz.sizeOf9
 v29:=Tryz.zeroValue9
 t32:=Tryz.underlying30
 a32:=Tryz.isAgg30
 z32:=Tryz.sizeOf30
 v32:=Tryz.zeroValue30
 t35:=Tryz.underlying186
 a35:=Tryz.isAgg186
 z35:=Tryz.sizeOf186
 v35:=Tryz.zeroValue186
 t36:=Tryz.underlying187
 a36:=Tryz.isAgg187
 z36:=Tryz.sizeOf187
 v36:=Tryz.zeroValue187
 t41:=Tryz.underlying192
 a41:=Tryz.isAgg192
 z41:=Tryz.sizeOf192
 v41:=Tryz.zeroValue192
 t44:=Tryz.underlying195
 a44:=Tryz.isAgg195
 z44:=Tryz.sizeOf195
 v44:=Tryz.zeroValue195
 t46:=Tryz.underlying197
 a46:=Tryz.isAgg197
 z46:=Tryz.sizeOf197
 v46:=Tryz.zeroValue197
 t53:=Tryz.underlying202
 a53:=Tryz.isAgg202
 z53:=Tryz.sizeOf202
 v53:=Tryz.zeroValue202
 t57:=Tryz.underlying206
 a57:=Tryz.isAgg206
 z57:=Tryz.sizeOf206
 v57:=Tryz.zeroValue206
 t63:=Tryz.underlying208
 a63:=Tryz.isAgg208
 z63:=Tryz.sizeOf208
 v63:=Tryz.zeroValue208
 t64:=Tryz.underlying209
 a64:=Tryz.isAgg209
 z64:=Tryz.sizeOf209
 v64:=Tryz.zeroValue209
end Go.Proofs.YtbhigdljojlhnaaGreat

namespace Go.Vc
set_option linter.all false
open Go.Proofs Go.Shelf Go.RowKit Go.Maps
open T (cM blk)
theorem ai.K7{P:Program}{ρk ρs:Ren}(Lk:SlLaysZ.n10 P ρk)(Ls:SlLaysZ.n6 P ρs)(hb:iX P (ρs.f 6))(hsort:∀m,AnyZ.SortsIn P ρs Fence.wide m)
  (e9:∀args w,(callFunc (ρs.f 9) args).run P w=.ok (.enter (ρs.f 9) args) w) (eg:∀args w,(callFunc (ρk.f 10) args).run P w=.ok (.enter (ρk.f 10) args) w) :
  ai P (ρs.f 6) [.box true () (.val (.map none))] (.cons (.fn (ρk.f 10) (.cons (.ptr 0 [.d]) .nil)) .nil)
   fun av X κ=>av=.sub 1 [] 0 0 false∧X=[.box true () (.val (.map none)),.sl true () 1 .nil]∧κ=[]:=by
 refine⟨hb,fun w I F0 vs hY hH hnd hap hlt hilt hvs=>?_⟩
 obtain⟨g1,rfl⟩:=DB hY rfl
 obtain⟨l,P0,v1,yc,rfl,uA,RZ⟩:∃l,vs=[.func (.func (ρk.f 10)) #[] l.toArray]∧∃v1 yc,l=v1::yc∧Rl w.heap I [g1] (.ptr 0 [.d]) true [v1]∧Rl w.heap I [g1] .nil true yc:=by
  obtain⟨v,vs',rfl,hv,WD⟩:=hvs
  obtain rfl:vs'=[]:=WD
  obtain⟨l,h1,v1,yc,h2,h3,h4⟩:=hv
  exact⟨l,h1,v1,yc,h2,h3,h4⟩
 obtain rfl:yc=[]:=RZ
 obtain⟨b1,o1,hl2,tJ⟩:=uA
 simp only[List.cons.injEq,and_true] at tJ
 subst tJ
 subst P0
 have Ky:=hH g1 (by simp)
 obtain⟨a1,rfl⟩:∃a1,g1=.box true a1 (.val (.map none)):=by
  have YV:g1.erase=.box true () (.val (.map none)):=by
   simpa using hY
  cases g1<;>simp only[T.erase,reduceCtorEq,T.box.injEq] at YV
  rename_i o a g
  obtain⟨rfl,_,h⟩:=YV
  cases g<;>simp only[T.erase,reduceCtorEq,T.val.injEq] at h
  subst h
  exact⟨_,rfl⟩
 obtain⟨_,_,h4⟩:=id Ky
 obtain⟨x,rfl,hx1,hx2,row,e,fr,hrow,hcell⟩:∃x,a1=.pointer (some x)∧x.spot=none∧(x.off=0)∧T.oz w.heap x.block x.off (T.val (α:=Value) (.map none)).cells:=by
  split at h4
  ·obtain⟨k1,k2,k3,k4⟩:=h4
   exact⟨_,rfl,k1,(k3 rfl).1,k4⟩
  ·exact h4.elim
 simp only[dF,List.getElem?_cons_zero,Option.bind_some,T.loc,Option.some.injEq] at hl2
 have L3:b1=x.block∧o1=0:=by
  simp only[T.bQ,Option.some.injEq,Loc.abs.injEq] at hl2
  exact⟨hl2.1.symm,by omega⟩
 obtain⟨rfl,rfl⟩:=L3
 have hxs:x.block<w.heap.size:=(Array.getElem?_eq_some_iff.1 hrow).1
 have hm0:w.cell? ⟨x.block,0,none⟩=some (.map none):=by
  have h1:=hcell 0 (.map none) rfl
  rw[hx2] at h1
  simpa[World.cell?,hrow] using h1
 have hseq:SeqGives Fence.wide (5-1-1-1) P (ρk.f 10) #[.pointer (some ⟨x.block,0,none⟩)] encStr (fun ss:List (List UInt8)=>ss=[]) 0 w :=
  AnyZ.keys_gives_nil Lk Fence.wide _ trivial rfl x.block w hxs hm0
 refine(callsIn_wide.1 (AnyZ.sorted_in Ls Fence.wide 5 trivial trivial trivial trivial rfl (by omega) (hsort _) e9 (ρk.f 10) #[.pointer (some ⟨x.block,0,none⟩)] trivial eg _ _ (by omega) (by omega) w hseq)).mono ?_
 rintro e' w' ⟨v,ss,rfl,rfl,lM,_,hB⟩
 obtain⟨hi,hv⟩:=tV (P:=P) (L:=[]) (v:=v) hH hnd hap hlt hilt hB (by simpa using lM)
 rw[hY] at hi
 exact⟨v,_,_,_,I,_,rfl,⟨rfl,rfl,rfl⟩,hi,hv⟩
theorem D2{P:Program}{ρk ρs:Ren}(Lk:SlLaysZ.n10 P ρk)(Ls:SlLaysZ.n6 P ρs)(hsort:∀m,AnyZ.SortsIn P ρs Fence.wide m)
  (e9:∀args w,(callFunc (ρs.f 9) args).run P w=.ok (.enter (ρs.f 9) args) w) (eg:∀args w,(callFunc (ρk.f 10) args).run P w=.ok (.enter (ρk.f 10) args) w) {w:World} {xb r c:Nat} {es:Array MapEntry} {ks:List ByteArray}
  (hxs:xb<w.heap.size) (hm0:w.cell? ⟨xb,0,none⟩=some (.map (some r))) (hr:w.heap[r]? = some (.map es c)) (hst:MapKept.Stamped es c) (hkeys:es.toList.map (·.key)=ks.map Value.string) (hsz:∀k∈ks,k.size≤maxLen) (hl:ks.length≤1000000) :
  Calls P (ρs.f 6) #[.func (.func (ρk.f 10)) #[] #[.pointer (some ⟨xb,0,none⟩)]] w fun e w'=>∃v,e=.returned v∧w'.ownsRow w.heap.size (ρs.t 26) 1 v (ks.mergeSort leB).length ((ks.mergeSort leB).map Value.string)∧Below w.heap.size w w':=by
 have hel:es.size=ks.length:=by
  have:=congrArg List.length hkeys
  simpa using this
 obtain⟨R,hR⟩:∃R:Value→Option (DataW Unit×List MemPlace),R=fun _=>some (.nil,[]):=⟨_,rfl⟩
 have hrd:∀y∈es.toList,∃k∈ks,y.key=.string k∧Go.WideElems.rd P (ρk.t 26) R y=some (.string k.toList,.nil):=fun y hy=>by
  have h1:y.key∈ks.map Value.string:=by rw[←hkeys];exact List.mem_map.2 ⟨y,hy,rfl⟩
  obtain⟨k,hk,e1⟩:=List.mem_map.1 h1
  refine⟨k,hk,e1.symm,?_⟩
  rw[Go.WideElems.rd,←e1,Go.WideMaps.keyOf_string_mk Lk.t26 (hsz k hk),hR,Go.ByteArray.toList_eq]
  rfl
 have aau:Go.WideElems.Fit P (ρk.t 26) R es c:=⟨by rw[hel];have:maxLen=2 ^ 63-1:=rfl;omega,hst,fun y hy=>by obtain⟨k,_,_,h⟩:=hrd y hy;exact⟨_,h⟩⟩
 obtain⟨D0,Vh⟩:∃D0:DataW Unit,D0=.map ((es.toList.map (Go.WideElems.rg P (ρk.t 26) R)).foldr DataW.insert []):=⟨_,rfl⟩
 have hown:w.ownsMap P (ρk.t 26) R r es.size D0:=⟨es,c,hr,aau,Nat.le_refl _,Vh⟩
 have hrg:(es.toList.map (Go.WideElems.rg P (ρk.t 26) R)).map (fun p=>strOf p.1)=ks.map ByteArray.toList:=by
  rw[List.map_map]
  have h1:∀y∈es.toList,((fun p=>strOf p.1) ∘ Go.WideElems.rg P (ρk.t 26) R) y=(match y.key with | .string k=>k.toList|_=>[]):=fun y hy=>by
   obtain⟨k,_,h2,h3⟩:=hrd y hy
   simp only[Function.comp_apply,Go.WideElems.rg,h3,Option.getD_some,h2,strOf]
  rw[List.map_congr_left h1]
  have h2:es.toList.map (fun y=>match y.key with | .string k=>k.toList|_=>[])=(es.toList.map (·.key)).map fun v=>(match v with | .string k=>k.toList|_=>[]):=by rw[List.map_map];rfl
  rw[h2,hkeys,List.map_map];rfl
 have hsk:(strKeys D0).Perm (ks.map ByteArray.toList):=by
  rw[Vh,←hrg]
  exact(Go.WideShapes.sorted_perm _).map _
 have hsize:Maps.size D0=ks.length:=by
  have:=hsk.length_eq
  rw[Vh] at this ⊢
  simpa[strKeys,Maps.size] using this
 have GP:maxLen=2 ^ 63-1:=rfl
 have hseq:SeqGives Fence.wide (5-1-1-1) P (ρk.f 10) #[.pointer (some ⟨xb,0,none⟩)] encStr (fun ss=>ss.Perm (strKeys D0)) (Maps.size D0) w :=
  AnyZ.keys_gives Lk Fence.wide _ trivial rfl (by omega) xb r es.size D0 w hxs hm0 hown
 refine(callsIn_wide.1 (AnyZ.sorted_in Ls Fence.wide 5 trivial trivial trivial trivial rfl (by omega) (hsort _) e9 (ρk.f 10) #[.pointer (some ⟨xb,0,none⟩)] trivial eg _ _ (by omega) (by omega) w hseq)).mono ?_
 rintro e' w' ⟨v,ss,rfl,D1,lM,_,hB⟩
 obtain⟨L,hL⟩:∃L,L=ks.mergeSort leB:=⟨_,rfl⟩
 have hLl:L.length=ks.length:=by rw[hL,List.length_mergeSort]
 have aav:ss.length=L.length:=by rw[hLl,(D1.trans hsk).length_eq,List.length_map]
 have hmap:(ss.mergeSort fun x y=>decide (x≤y)).map encStr=L.map Value.string:=by
  rw[wD (D1.trans hsk),zk,←hL,List.map_map]
  exact List.map_congr_left fun k _=>Kq k
 rw[hmap,aav] at lM
 rw[←hL]
 exact⟨v,rfl,lM,hB⟩
theorem adj{c:Cx}{ρ:Ren}(L:SlLaysZ.n7 c.P ρ)(hb:iX c.P (ρ.f 7)){st:St}{K:AV→St→Prop}(k:Nat)(q:Path)
  (hK:K (.fn (ρ.f 10) (.cons (.ptr ((AV.mp k q).lay c.F0.length st.X).X.length [.d]) .nil)) ((st.mT ((AV.mp k q).lay c.F0.length st.X)).push ((AV.mp k q).lay c.F0.length st.X) (.d :: ·) (.box true () ((AV.mp k q).lay c.F0.length st.X).d))) :
  bx c (ρ.f 7) (.cons (.mp k q) .nil) st K:=by
 rintro a w vs ⟨hd,hs,I,F,hi,he,hp,hvs⟩
 refine⟨hb,?_⟩
 obtain⟨v,vs',rfl,hv,WD⟩:=hvs
 obtain rfl:vs'=[]:=WD
 obtain⟨Md,r,z',len',hh,Kw⟩:=id hv
 simp only[List.cons.injEq,and_true] at Kw
 subst Kw
 refine(callsIn_wide.1 (AnyZ.keys_in L Fence.wide 5 trivial rfl (some r) w)).mono ?_
 rintro e' w' ⟨rfl,rfl⟩
 have Wv:=Rel.WE (c:=c) (st:=st) (av:=.mp k q) (cs:=#[.map (some r)]) hd hs hi he hp ⟨Md,r,z',len',hh,rfl⟩ rfl (ρ.t 23)
 obtain⟨h1,h2,I1,F1,h3,h4,h5,b,o,h6,h7⟩:=Wv
 refine⟨_,_,_,rfl,hK,⟨h1,h2,I1,F1,h3,h4,h5,[.pointer (some ⟨w.heap.size,0,none⟩)],rfl,_,_,rfl,⟨b,o,h6,h7⟩,rfl⟩,fun _ b hb=>qI hb⟩
theorem VQ{c:Cx}{ρk ρs:Ren}(Lk:SlLaysZ.n10 c.P ρk)(Ls:SlLaysZ.n6 c.P ρs)(hb:iX c.P (ρs.f 6))(hsort:∀m,AnyZ.SortsIn c.P ρs Fence.wide m)
  (e9:∀args w,(callFunc (ρs.f 9) args).run c.P w=.ok (.enter (ρs.f 9) args) w) (eg:∀args w,(callFunc (ρk.f 10) args).run c.P w=.ok (.enter (ρk.f 10) args) w) {st:St} {K:AV→St→Prop} {n k:Nat} {q:Path} {o:Bool} {m:D} {ks:List ByteArray}
  (hks:mj m ks) (hsz:∀k∈ks,k.size≤maxLen) (hl:ks.length≤1000000) (h:((n,[.d],.mp k q)∈st.pl∧st.X[n]? = some (.box true () (.aH ()))∧(st.tree k).at_ q=.map o () m))
  (hK:K (.sub st.X.length [] 0 ks.length false) { st with X:=st.X++[.sl true () 1 (strs (ks.mergeSort leB))] }) :
  bx c (ρs.f 6) (.cons (.fn (ρk.f 10) (.cons (.ptr n [.d]) .nil)) .nil) st K:=by
 rintro a w vs ⟨hd,hs,I,F,hi,he,hp,hvs⟩
 refine⟨hb,?_⟩
 obtain⟨oE,hX,ht⟩:=h
 obtain⟨g1,u,p1,p2,Md,r,z',len',hh,hu⟩:=hp n [.d] (.mp k q) oE
 simp only[List.cons.injEq,and_true] at hu
 subst hu
 obtain⟨es,cl,s0,hs0,hr,qC,hst⟩:∃es cl,∃s0:G,s0.erase=m∧w.heap[r]? = some (.map es cl)∧T.aD es.toList s0∧MapKept.Stamped es cl:=by
  unfold bM at hh
  cases hf:F[k]? with
  | none=>rw[hf] at hh;simp at hh
  | some f =>
   rw[hf] at hh
   simp only[Option.bind_some] at hh
   have vo:(f.at_ q).erase=.map o () m:=by
    rw[T.bJ,←ht]
    unfold St.tree
    rw[←hi.erase,List.getD_eq_getElem?_getD,List.getElem?_map,hf];rfl
   obtain⟨a0,s0,WA,hs0⟩:∃a0 s0,f.at_ q=.map o a0 s0∧s0.erase=m:=by
    generalize f.at_ q=fq at vo
    cases fq<;>simp only[T.erase] at vo<;>cases vo
    exact⟨_,_,rfl,rfl⟩
   have hH:=(hi.holds f (List.mem_of_getElem? hf)).at_ q
   rw[WA] at hH hh
   simp only[cM,Option.some.injEq,Prod.mk.injEq] at hh
   obtain⟨_,rfl,_,_⟩:=hh
   obtain⟨_,_,_,es,cl,hr',qC,hst⟩:=hH
   exact⟨es,cl,s0,hs0,hr',qC,hst⟩
 have hkeys:=nR qC (hs0▸hks)
 obtain⟨l,P0,v1,yc,rfl,uA,RZ⟩:∃l,vs=[.func (.func (ρk.f 10)) #[] l.toArray]∧∃v1 yc,l=v1::yc∧Rl w.heap I F (.ptr n [.d]) true [v1]∧Rl w.heap I F .nil true yc:=by
  obtain⟨v,vs',rfl,hv,WD⟩:=hvs
  obtain rfl:vs'=[]:=WD
  obtain⟨l,h1,v1,yc,h2,h3,h4⟩:=hv
  exact⟨l,h1,v1,yc,h2,h3,h4⟩
 obtain rfl:yc=[]:=RZ
 obtain⟨b1,o1,hl2,tJ⟩:=uA
 simp only[List.cons.injEq,and_true] at tJ
 subst tJ
 subst P0
 obtain⟨a1,rfl⟩:∃a1,g1=.box true a1 (.aH (.map (some r))):=by
  have YV:g1.erase=.box true () (.aH ()):=by
   rw[←hi.erase,List.getElem?_map,p1] at hX
   simpa using hX
  cases g1<;>simp only[T.erase,reduceCtorEq,T.box.injEq] at YV
  rename_i o' a g
  obtain⟨rfl,_,h⟩:=YV
  cases g<;>simp only[T.erase,reduceCtorEq] at h
  rename_i u1
  have:u1=.map (some r):=by simpa[T.at_] using p2
  subst this
  exact⟨_,rfl⟩
 have Ky:=hi.holds _ (List.mem_of_getElem? p1)
 obtain⟨_,_,h4⟩:=id Ky
 obtain⟨x,rfl,hx1,hx2,row,e,fr,hrow,hcell⟩:∃x,a1=.pointer (some x)∧x.spot=none∧(x.off=0)∧T.oz w.heap x.block x.off (T.aH (α:=Value) (.map (some r))).cells:=by
  split at h4
  ·obtain⟨k1,k2,k3,k4⟩:=h4
   exact⟨_,rfl,k1,(k3 rfl).1,k4⟩
  ·exact h4.elim
 simp only[dF,p1,Option.bind_some,T.loc,Option.some.injEq] at hl2
 have L3:b1=x.block∧o1=0:=by
  simp only[T.bQ,Option.some.injEq,Loc.abs.injEq] at hl2
  exact⟨hl2.1.symm,by omega⟩
 obtain⟨rfl,rfl⟩:=L3
 have hxs:x.block<w.heap.size:=(Array.getElem?_eq_some_iff.1 hrow).1
 have hm0:w.cell? ⟨x.block,0,none⟩=some (.map (some r)):=by
  have h1:=hcell 0 (.map (some r)) rfl
  rw[hx2] at h1
  simpa[World.cell?,hrow] using h1
 refine(D2 Lk Ls hsort e9 eg hxs hm0 hr hst hkeys hsz hl).mono ?_
 rintro e' w' ⟨v,rfl,lM,hB⟩
 obtain⟨hi2,hv⟩:=tV (P:=c.P) hi.holds hi.nodup hi.apart hi.lt hi.ic hB lM
 have S:=jo.RX (nb:=c.F0.length) hi2
 have yd:F.length=st.X.length:=by rw[←hi.erase];simp
 have h1:=hi.step S
 rw[hi2.erase,hi.erase,List.nil_append] at h1
 have h2:=he.step hi S
 rw[Env.R3] at h2
 have h3:=hp.step hi S
 rw[G4] at h3
 refine⟨v,_,_,rfl,hK,⟨hd.step hi S,hs,I,_,h1,h2,h3,?_⟩,fun _ b hb=>hB.block b hb⟩
 rw[←yd,show ks.length=(ks.mergeSort leB).length by rw[List.length_mergeSort]]
 exact hv
end Go.Vc

namespace Go.Proofs.YtbhigdljojlhnaaGreat
set_option linter.all false
open Go.Vc Go.Proofs Go Go.Shelf
set_option maxRecDepth 100000
set_option maxHeartbeats 4000000
attribute [local irreducible] bx jv
theorem enters_of{P:Program}{f:FuncId}{fn:Func}(h:P.funcs[f]? = some fn)(hb:fn.body.isSome=true)(hn:(fn.name == "runtime.NumGoroutine")=false):∀args w,(callFunc f args).run P w=.ok (.enter f args) w:=kK ⟨fn,h,hb,hn⟩
theorem aa1(o:Bool)(m:D)(hm:m.free=true):ai Tryz.prog 49 [.map o () m] (.cons (.mp 0 []) .nil) fun av X κ=>av=.mp 1 []∧X=[.map o () m,.map true () m]∧κ=[] :=
 ai.aa2 adh ⟨_,Tryz.func49,by kernel_rfl,by kernel_rfl⟩ o m hm
theorem Ge(m:Nat):AnyZ.SortsIn Tryz.prog Yy Fence.wide m :=
 ⟨fun blk off cap ss W hH hblk hsz=>callsIn_wide.2 (AnyM.slices_Sort_string QC blk off cap ss W hH hblk hsz),fun p cap W=>callsIn_wide.2 (AnyM.slices_Sort_string_none QC p cap W)⟩
theorem QD(o:Bool)(m:D):oZ Tryz.prog 86 [.map o () m] (.cons (.mp 0 []) .nil) fun av X κ pl=>av=.fn 120 (.cons (.ptr 1 [.d]) .nil)∧X=[.map o () m,.box true () (.aH ())]∧κ=[]∧pl=[(1,[.d],.mp 0 [])] :=
 oZ.K5 QE ⟨_,Tryz.func86,by kernel_rfl,by kernel_rfl⟩ o m
theorem Gf(o:Bool)(m:D)(ks:List ByteArray)(hks:mj m ks)(hsz:∀k∈ks,k.size≤maxLen)(hl:ks.length≤1000000) :
  eR Tryz.prog 82 [.map o () m,.box true () (.aH ())] [(1,[.d],.mp 0 [])] (.cons (.fn 120 (.cons (.ptr 1 [.d]) .nil)) .nil)
   fun av X κ=>av=.sub 2 [] 0 ks.length false∧X=[.map o () m,.box true () (.aH ()),.sl true () 1 (strs (ks.mergeSort Go.Vc.leB))]∧κ=[] :=
 eR.CW (ρk:=Yz) { QE with } Gg ⟨_,Tryz.func82,by kernel_rfl,by kernel_rfl⟩ Ge (enters_of Tryz.func118 (by kernel_rfl) rfl) (enters_of Tryz.func120 (by kernel_rfl) rfl) o m ks hks hsz hl
theorem K6:ai Tryz.prog 83 [] (.cons (.val (.map none)) .nil) fun av X κ=>av=.fn 119 (.cons (.ptr 0 [.d]) .nil)∧X=[.box true () (.val (.map none))]∧κ=[]:=by
 refine fb Tryz.func83 Tryz.ntmps83 [.tmp 2] fun w0 I0 F0 hF=>?_
 repeat first|refine n1 ?_|(first|refine rg 0 [0] [1] [] ?_|refine rg 1 [1] [2] [] ?_);simp[hF]
 (try refine nr ?_);(repeat first|refine aF ?_|refine aG ?_);refine ak.o [2] [0] [] ?_;simp[hF,an,aa,ah]
theorem CX:ai Tryz.prog 82 [.box true () (.val (.map none))] (.cons (.fn 119 (.cons (.ptr 0 [.d]) .nil)) .nil)
  fun av X κ=>av=.sub 1 [] 0 0 false∧X=[.box true () (.val (.map none)),.sl true () 1 .nil]∧κ=[] :=
 ai.K7 (ρk:=QF) { Gh with } Gg ⟨_,Tryz.func82,by kernel_rfl,by kernel_rfl⟩ Ge (enters_of Tryz.func118 (by kernel_rfl) rfl) (enters_of Tryz.func119 (by kernel_rfl) rfl)
section
variable {nt:Nat} {w0:World} {I0:Nat→Prop} {F0:List G} {st:St} {K:AV→St→Prop}
theorem VP(k:Nat)(q:Path)
  (hK:K (.fn 119 (.cons (.ptr ((AV.mp k q).lay F0.length st.X).X.length [.d]) .nil)) ((st.mT ((AV.mp k q).lay F0.length st.X)).push ((AV.mp k q).lay F0.length st.X) (.d :: ·) (.box true () ((AV.mp k q).lay F0.length st.X).d))) :
  bx ⟨Tryz.prog,nt,w0,I0,F0⟩ 83 (.cons (.mp k q) .nil) st K:=adj (c:=⟨Tryz.prog,nt,w0,I0,F0⟩) Gh ⟨_,Tryz.func83,by kernel_rfl,by kernel_rfl⟩ k q hK
theorem K8{n k:Nat}{q:Path}{o:Bool}{m:D}{ks:List ByteArray}
  (hks:mj m ks) (hsz:∀k∈ks,k.size≤maxLen) (hl:ks.length≤1000000) (h:((n,[.d],.mp k q)∈st.pl∧st.X[n]? = some (.box true () (.aH ()))∧(st.tree k).at_ q=.map o () m))
  (hK:K (.sub st.X.length [] 0 ks.length false) { st with X:=st.X++[.sl true () 1 (strs (ks.mergeSort Go.Vc.leB))] }) :
  bx ⟨Tryz.prog,nt,w0,I0,F0⟩ 82 (.cons (.fn 119 (.cons (.ptr n [.d]) .nil)) .nil) st K :=
 VQ (c:=⟨Tryz.prog,nt,w0,I0,F0⟩) (ρk:=QF) { Gh with } Gg ⟨_,Tryz.func82,by kernel_rfl,by kernel_rfl⟩ Ge (enters_of Tryz.func118 (by kernel_rfl) rfl) (enters_of Tryz.func119 (by kernel_rfl) rfl) hks hsz hl h hK
end
theorem QG:∀t:Tb,mj (uV t) (t.map (·.1))
 | []=>trivial
 | e::t=>⟨rfl,QG t⟩
end Go.Proofs.YtbhigdljojlhnaaGreat

namespace Go.Vc
set_option linter.all false
open T (cM blk)
def yY (c:Cx) (st:St) (o:Oper) (K:AV→St→Prop):Prop :=
 ∀a w,Rel c st a w→∀(next:Act→World→Prop) (Q:Exit→Act→World→Prop),(∀av v st' w',K av st'→gr c st' av v a w'→next (a.put o.dst v) w')→o.wp c.P a w next Q
theorem yY.of{c:Cx}{τ:bg}(hτ:bg.Ok c.P τ){st:St}{o:Oper}{K:AV→St→Prop}(h:cF c τ o st K):yY c st o K :=
 fun _ _ hr _ _ hn=>zn hτ hr h fun av v st' w' h1 h2 _=>hn av v st' w' h1 h2
def Lb (c:Cx):List Oper→St→(St→Prop)→Prop
 | [],st,K=>K st
 | o::r,st,K=>o.guard=none∧yY c st o fun av st'=>Lb c r (st'.put o.dst av) K
theorem Ku{c:Cx}{all:List Oper}{Q:Exit→Act→World→Prop}{K:St→Prop}(hQ:∀st a w,K st→Rel c st a w→Q .normal a w) :
  ∀(l:List Oper) (st:St) (a:Act) (w:World),dY c.nt l=true→Rel c st a w→Lb c l st K→wpList c.P all.toArray Q l a w
 | [],st,a,w,_,h,hv=>hQ st a w hv h
 | o::r,st,a,w,hl,h,hv=>by
  simp only[dY,List.all_cons,Bool.and_eq_true] at hl
  have iN:∀t,o.dst=some t→t<c.nt:=fun t ht=>by
   have:=hl.1;rw[ht] at this;exact Nat.le_of_ble_eq_true this
  obtain⟨hg,hv⟩:=hv
  unfold wpList
  rw[if_pos (cV (gs:=[]) (st:=st) rfl h (by rw[hg];rfl))]
  refine .inl (hv a w h _ _ fun av v st' w' h1 h2=>?_)
  exact Ku hQ r _ _ w' hl.2 (h2.put iN) h1
theorem VS.Kj{c:Cx}{l:List Code}{K:Exit→St→Prop}{st:St}{id:Nat}{ops:List Oper}(hd:dY c.nt ops=true)(h:Lb c ops st (VS c l K)):VS c (.region id ops.toArray false::l) K st:=by
 rw[jN]
 intro a w hr
 refine wp_region_list ?_
 have:=Ku (all:=ops) (Q:=fun e a w=>∃st',eN (VS c l K) K e st'∧Rel c st' a w) (fun st a w h1 h2=>⟨st,h1,h2⟩) ops st a w hd hr h
 simpa using this
theorem yY.ZJ{c:Cx}{st:St}{dst:Option Tmp}{ty:TypeId}{pos:String}{after:Array Edge}{g:Option (Nat×Bool)}{t:TypeId}{x:Operand}{v0:Value}{s:AV}{fs:Array Field}{f:Field}{k:IntKind}{K:AV→St→Prop}
  (ht:c.P.underlying t=some (.struct fs)) (hf:fs[0]? = some f) (hu:f.offset=0∧c.P.underlying f.type=some (.int k)) (hx:st.ev x=.agg (.cons (.val v0) s)) (h:K (.val v0) st) :
  yY c st ⟨dst,.field t x 0,ty,pos,after,g⟩ K:=fun a w hr next Q hn=>by
 obtain⟨hd,hz,I,F,hi,he,hp⟩:=id hr
 have h1:=he.ev x
 rw[hx] at h1
 obtain⟨cs,e1,v1,v2,rfl,⟨rfl,h3⟩,_⟩:=h1
 simp only[List.cons.injEq,and_true] at e1
 have hrun:(execOp a.eval ⟨dst,.field t x 0,ty,pos,after,g⟩).run c.P w=.ok (.value v0) w:=by
  simp[execOp,e1,Instr.field,run_underlying ht,hf,asAgg,part,hG hu.2,hu.1]
 unfold Oper.wp
 rw[hrun]
 exact hn _ _ st w h ⟨hd,hz,I,F,hi,he,hp,rfl,h3⟩
end Go.Vc

namespace Go.Proofs.YtbhigdljojlhnaaGreat
set_option linter.all false
open Go.Vc Go.Proofs
set_option maxRecDepth 100000
set_option maxHeartbeats 4000000
attribute [local irreducible] bx jv
def tG (t:Tb) (n:ByteArray):Int:=(bF t n).elim 0 (·.body)
def eH (t:Tb):List ByteArray:=(t.map (·.1)).mergeSort Go.Vc.leB
theorem yX(t:Tb):(eH t).length=t.length:=by simp[eH]
theorem K9{t:Tb}{n:ByteArray}(h:n∈eH t):∃e,bF t n=some e:=by
 have h1:n∈t.map (·.1):=by simpa[eH] using h
 cases hg:bF t n with
 | none=>exact absurd h1 (pY.1 hg)
 | some e=>exact⟨e,rfl⟩
def kD (t:Tb) (l:List ByteArray):List ByteArray:=l.filter fun n=>decide (tG t n≠-1)
def tH (t:Tb):List ByteArray:=kD t (eH t)
def o3 (s:Mt) (t:Int):Tb:=(bF s.aT (t,-1)).getD []
def kL (s:Mt) (t:Int):List ByteArray×Int:=if val s.L t=false then ([],1) else (tH (o3 s t),0)
theorem Gi(t:Tb)(l:List ByteArray)(n:ByteArray):kD t (l++[n])=if tG t n=-1 then kD t l else kD t l++[n]:=by
 unfold kD
 rw[List.filter_append]
 by_cases h:tG t n=-1<;>simp[h]
theorem La(t:Tb)(l:List ByteArray):(kD t l).length≤l.length:=List.length_filter_le _ _
def Fits (s:Mt):Prop:=(s.aT.flatMap (·.2)).length≤1000000∧∀k t,(k,t)∈s.aT→∀e∈t,cS e.1=true
theorem VR{l:List (Key×Tb)}{k:Key}{t:Tb}(h:(k,t)∈l):t.length≤(l.flatMap (·.2)).length:=by
 induction l with
 | nil=>cases h
 | cons a l ih =>
  rw[List.flatMap_cons,List.length_append]
  rcases List.mem_cons.1 h with rfl|h
  ·exact Nat.le_add_right _ _
  ·have:=ih h;omega
theorem Fits.cn{s:Mt}(h:Fits s){k:Key}{t:Tb}(hm:(k,t)∈s.aT):t.length≤1000000∧∀e∈t,cS e.1=true:=⟨Nat.le_trans (VR hm) h.1,h.2 k t hm⟩
theorem CY{n:ByteArray}(h:cS n=true):n.size≤maxLen:=by
 simp only[cS,Bool.and_eq_true,decide_eq_true_eq] at h
 have:maxLen=2 ^ 63-1:=rfl
 omega
theorem QH(o:Bool){s:Mt}(h:aR s)(hf:Fits s)(t:Int):ai Tryz.prog 36 [au o s] (.cons (.ptr 0 [.d]) (.cons (ag t) .nil))
  fun av X κ=>av=fX (.sub 1 [] 0 (kL s t).1.length false) (kL s t).2∧X=[au o s,aB (kL s t).1]∧κ=[]:=by
 refine fb Tryz.func36 Tryz.ntmps36 [.tmp 4,.tmp 5] fun w0 I0 F0 hF=>?_
 repeat first|refine n1 ?_|(first|refine rg 0 [0,1] [0,1] [] ?_|refine rg 1 [0,1] [0,1,13] [] ?_);simp[hF]
 cases hv:val s.L t with
 | false =>
  have hd:kL s t=([],1):=by simp[kL,hv]
  rw[hd]
  refine(mG o h t).go [(0,[])] (by simp[hF,au,hv]) ?_;rintro av X κ ⟨rfl,rfl,rfl⟩;simp[hF,au,hv]
  repeat first|refine n1 ?_|(first|refine rg 2 [] [4,5] [] ?_|refine nc ?_);simp[hF]
  refine VS.eT 4 1 (by simp) ?_
  (try refine nr ?_);(repeat first|refine aF ?_|refine aG ?_);refine ak.o [4,5] [0,1] [] ?_;simp[hF,an,aa,ah,au,aB,strs]
 | true =>
  have hd:kL s t=(tH (o3 s t),0):=by simp[kL,hv]
  rw[hd]
  have hfind:=jy o s.aT t (-1)
  have rY:=o4 o s.aT t (-1)
  cases hg:bF s.aT (t,-1) with
  | none =>
   have hn:tH (o3 s t)=[]:=by simp[o3,hg,tH,eH,kD]
   rw[hn]
   rw[hg] at hfind
   simp only[Option.map_none] at hfind
   refine(mG o h t).go [(0,[])] (by simp[hF,au,hv]) ?_;rintro av X κ ⟨rfl,rfl,rfl⟩;simp[hF,au,hv]
   repeat first|refine n1 ?_|refine n2 ?_|(first|refine rg 3 [0,1] [0,1,6] [] ?_|refine rg 4 [0,1,6] [6,7] [] ?_|refine nc ?_);simp[hF,au,hfind]
   refine VS.eT 6 1 (by simp) ?_
   repeat first|refine rg 5 [6,7] [6,7,23,24,25] [] ?_;simp[hF]
   refine(K6).go [] (by simp[hF,au]) ?_;rintro av X κ ⟨rfl,rfl,rfl⟩;simp[hF,au]
   repeat refine n1 ?_
   refine(CX).go [(2,[])] (by simp[hF,au]) ?_;rintro av X κ ⟨rfl,rfl,rfl⟩;simp[hF,au]
   repeat refine n3 ?_
   refine VS.rounds (fun m st=>st=⟨[(6,.sub 1 [] 0 0 false),(7,.val (.map none)),(23,.sub 3 [] 0 0 false),(24,ag 0),(25,ag 0)],[au o s,.sl true () 1 .nil,.box true () (.val (.map none)),.sl true () 1 .nil],[],[]⟩) ⟨0,by simp[au]⟩ ?_
   rintro m st rfl
   repeat first|refine n1 ?_|refine n7 ?_|(first|refine rg 6 [6,7,23,24,25] [6,7,23,24,25,26] [] ?_|refine rg 11 [6] [4,5] [] ?_|refine nc ?_);simp[hF]
   (try refine nr ?_);(repeat first|refine aF ?_|refine aG ?_);refine ak.o [4,5] [0,1] [] ?_;simp[hF,an,aa,ah,au,aB,strs]
  | some tb =>
   have ht:o3 s t=tb:=by simp[o3,hg]
   rw[ht]
   rw[hg] at hfind
   simp only[Option.map_some] at hfind
   obtain⟨rQ,hat⟩:=mo hg
   have ij:=jz o ⟨rQ,hat⟩
   refine(mG o h t).go [(0,[])] (by simp[hF,au,hv]) ?_;rintro av X κ ⟨rfl,rfl,rfl⟩;simp[hF,au,hv]
   have hks:(tb.map (·.1)).length=(eH tb).length:=by rw[yX];simp
   have hfit:=hf.cn (fY hg)
   have hkt:(tb.map (·.1)).mergeSort Go.Vc.leB=eH tb:=rfl
   repeat first|refine n1 ?_|refine n2 ?_|(first|refine rg 3 [0,1] [0,1,6] [] ?_|refine rg 4 [0,1,6] [6,7] [] ?_|refine nc ?_);simp[hF,au,hfind,rY,ij,rQ]
   refine VS.eT 6 1 (by simp) ?_
   repeat first|refine rg 5 [6,7] [6,7,23,24,25] [] ?_;simp[hF]
   refine VP 0 [.d,.f 1,.i (eB s.aT (t,-1)),.f 1] ?_
   simp
   repeat refine n1 ?_
   refine K8 (n:=2) (k:=0) (q:=[.d,.f 1,.i (eB s.aT (t,-1)),.f 1]) (o:=o) (QG tb) (fun k hk=>by obtain⟨p,hp,rfl⟩:=List.mem_map.1 hk;exact CY (hfit.2 p hp)) (by simpa using hfit.1) (by simp[St.tree,ij]) ?_
   simp[hkt,hks]
   repeat refine n3 ?_
   refine VS.forget ?_;simp[hF,St.forget]
   refine VS.pick [6,7,23,24,25] [0,1,3] (by simp[hF]) ?_;simp[hF]
   refine VS.rounds (fun m st=>∃(i:Nat),i+m=(eH tb).length∧st=⟨[(6,.sub 1 [] 0 (kD tb ((eH tb).take i)).length false),(7,.mp 0 [.d,.f 1,.i (eB s.aT (t,-1)),.f 1]),(23,.sub 2 [] 0 (eH tb).length false),(24,ag (eH tb).length),(25,ag i)],
    [au o s,aB (kD tb ((eH tb).take i)),aB (eH tb)],[],[]⟩) ⟨(eH tb).length,0,by omega,by simp[au,aB,kD,strs]⟩ ?_
   rintro m st ⟨i,hi,rfl⟩
   have mc:(eH tb).length≤1000000:=by rw[yX];exact hfit.1
   repeat first|refine n1 ?_|(first|refine rg 6 [6,7,23,24,25] [6,7,23,24,25,26] [] ?_|refine nc ?_);simp[hF,aB]
   refine⟨fun hlt=>?_,fun hge=>?_⟩
   ·have hi':i<(eH tb).length:=by omega
    have hsn:=rZ hi'
    obtain⟨e,he⟩:=K9 (List.getElem_mem hi')
    have hnf:=sd tb (eH tb)[i]
    rw[he] at hnf
    simp only[Option.map_some] at hnf
    have hb:tG tb (eH tb)[i]=e.body:=by rw[tG,he];rfl
    have dQ:kD tb ((eH tb).take (i+1))=if e.body=-1 then kD tb ((eH tb).take i) else kD tb ((eH tb).take i)++[(eH tb)[i]]:=by
     rw[List.take_succ_eq_append_getElem hi',Gi,hb]
    have hq:=La tb ((eH tb).take i)
    rw[List.length_take] at hq
    have hw:IntKind.i64.wrap ((i:Int)+1)=((i+1:Nat):Int):=by rw[IntWalk.i64_in _ (by omega)];rfl
    generalize (eH tb)[i]=nm at *
    generalize kD tb ((eH tb).take i)=q at *
    repeat first|refine n1 ?_|refine n2 ?_|refine n3 ?_|refine rg 7 [6,7,23,24,25] [6,7,9,23,24,25] [] ?_;simp[hF,au,aB,hsn,hi']
    refine VS.Kj (by kernel_rfl) ?_
    refine⟨rfl,yY.of iA ?_⟩
    simp
    refine⟨rfl,yY.of iA ?_⟩
    simp
    refine⟨rfl,yY.of iA ?_⟩
    simp[ij,hnf,rQ,aK]
    refine⟨rfl,yY.ZJ Tryz.underlying41 rfl ⟨rfl,Tryz.underlying3⟩ rfl ?_⟩
    refine⟨rfl,yY.of iA ?_⟩
    by_cases Cf:e.body=-1
    ·rw[if_pos Cf] at dQ
     simp[Cf]
     unfold Lb
     repeat first|refine n2 ?_|refine n4 ?_|refine n5 ?_|refine n6 ?_|(first|refine rg 10 [6,7,23,24,25] [6,7,23,24,25] [] ?_|refine nc ?_);simp[hF,hw]
     refine aO.of [6,7,23,24,25] [0,1,2] (m-1) (by omega) (by simp[hF]) ?_
     exact⟨i+1,by omega,by rw[dQ];simp[au,aB]⟩
    ·rw[if_neg Cf] at dQ
     simp[Cf]
     unfold Lb
     repeat first|refine n4 ?_|refine n5 ?_|refine n6 ?_|refine⟨⟨by omega,by omega⟩,?_⟩|(first|refine rg 9 [6,7,9,23,24,25] [6,7,23,24,25] [] ?_|refine rg 10 [6,7,23,24,25] [6,7,23,24,25] [] ?_|refine nc ?_);simp[hF,hw]
     refine aO.of [6,7,23,24,25] [0,1,2] (m-1) (by omega) (by simp[hF]) ?_
     exact⟨i+1,by omega,by rw[dQ];simp[au,aB]⟩
   ·obtain rfl:i=(eH tb).length:=by omega
    rw[List.take_length]
    have hn:kD tb (eH tb)=tH tb:=rfl
    rw[hn]
    repeat first|refine n1 ?_|refine n7 ?_|refine rg 11 [6] [4,5] [] ?_;simp[hF]
    (try refine nr ?_);(repeat first|refine aF ?_|refine aG ?_);refine ak.o [4,5] [0,1] [] ?_;simp[hF,an,aa,ah,au,aB]
end Go.Proofs.YtbhigdljojlhnaaGreat

namespace Go.Proofs.YtbhigdljojlhnaaGreat
set_option linter.all false
open Go.Vc Go.Proofs
theorem kW(a b:ByteArray):e8 a b=true↔a.toList<b.toList:=by rw[e8,bytesLess_eq,decide_eq_true_eq]
theorem Ws{a b:ByteArray}(h:a.toList=b.toList):a=b:=by
 have:=wA a b
 rw[h,beq_self_eq_true] at this
 exact of_decide_eq_true this.symm
theorem kV(a:ByteArray):e8 a a=false:=by
 rw[Bool.eq_false_iff];exact fun h=>List.lt_irrefl _ ((kW a a).1 h)
theorem pn{a b c:ByteArray}(h:e8 a b=true)(g:e8 b c=true):e8 a c=true :=
 (kW a c).2 (List.lt_trans ((kW a b).1 h) ((kW b c).1 g))
theorem tT(a b:ByteArray):e8 a b=true∨a=b∨e8 b a=true:=by
 by_cases h:a.toList<b.toList
 ·exact .inl ((kW a b).2 h)
 ·by_cases g:b.toList<a.toList
  ·exact .inr (.inr ((kW b a).2 g))
  ·exact .inr (.inl (Ws (List.le_antisymm g h)))
theorem qZ{a b:ByteArray}(h:e8 a b=true):e8 b a=false:=by
 rw[Bool.eq_false_iff]
 intro g
 have:=pn h g
 rw[kV] at this;cases this
theorem Dy{a b:ByteArray}(h:e8 a b=true):a≠b:=fun e=>by rw[e,kV] at h;cases h
def GO (a b:ByteArray):Bool:=!e8 b a
theorem vn(a b:ByteArray):GO a b=true↔e8 a b=true∨a=b:=by
 unfold GO
 rcases tT a b with h|rfl|h
 ·simp[h,qZ h]
 ·simp[kV]
 ·have hne:¬a=b:=fun e=>Dy h e.symm
  simp[h,qZ h,hne]
theorem LW(a b c:ByteArray)(h:GO a b=true)(g:GO b c=true):GO a c=true:=by
 rw[vn] at *
 rcases h with h|rfl
 ·rcases g with g|rfl
  ·exact .inl (pn h g)
  ·exact .inl h
 ·exact g
theorem LX(a b:ByteArray):(GO a b||GO b a)=true:=by
 rw[Bool.or_eq_true,vn,vn]
 rcases tT a b with h|rfl|h
 ·exact .inl (.inl h)
 ·exact .inl (.inr rfl)
 ·exact .inr (.inl h)
def ZN (l:List ByteArray) (s:ByteArray):Bool:=l.any fun x=>decide (x=s)
theorem lD{l:List ByteArray}{s:ByteArray}:ZN l s=true↔s∈l:=by simp[ZN]
def PY (l:List ByteArray):Prop:=l.Pairwise fun a b=>e8 a b=true
theorem PY.nodup{l:List ByteArray}(h:PY l):l.Nodup:=List.Pairwise.imp (fun hab=>Dy hab) h
theorem se:∀{l m:List ByteArray},PY l→PY m→(∀x,x∈l↔x∈m)→l=m
 | [],[],_,_,_=>rfl
 | [],b::m,_,_,h=>by have:=(h b).2 (by simp);simp at this
 | a::l,[],_,_,h=>by have:=(h a).1 (by simp);simp at this
 | a::l,b::m,h1,h2,h=>by
  have k1:=List.pairwise_cons.1 h1
  have k2:=List.pairwise_cons.1 h2
  have e:a=b:=by
   rcases List.mem_cons.1 ((h a).1 (by simp)) with e|ha
   ·exact e
   ·rcases List.mem_cons.1 ((h b).2 (by simp)) with e|hb
    ·exact e.symm
    ·have h3:=k2.1 a ha
     have h4:=k1.1 b hb
     rw[qZ h3] at h4;cases h4
  subst e
  rw[se k1.2 k2.2 fun x=>?_]
  have hx:=h x
  simp only[List.mem_cons] at hx
  constructor
  ·intro hl
   rcases hx.1 (.inr hl) with e|hm
   ·subst e;have:=k1.1 x hl;rw[kV] at this;cases this
   ·exact hm
  ·intro hm
   rcases hx.2 (.inr hm) with e|hl
   ·subst e;have:=k2.1 x hm;rw[kV] at this;cases this
   ·exact hl
def jS (s:ByteArray):List ByteArray→List ByteArray
 | []=>[s]
 | a::l=>if e8 s a=true then s::a::l else if s=a then a::l else a::jS s l
theorem wC{s x:ByteArray}:∀{l:List ByteArray},x∈jS s l↔x=s∨x∈l
 | []=>by simp[jS]
 | a::l=>by
  rw[jS]
  split
  ·simp
  ·split
   ·rename_i h1 h2;subst h2;simp
   ·rw[List.mem_cons,wC,List.mem_cons]
    constructor
    ·rintro(h|h|h)
     ·exact .inr (.inl h)
     ·exact .inl h
     ·exact .inr (.inr h)
    ·rintro(h|h|h)
     ·exact .inr (.inl h)
     ·exact .inl h
     ·exact .inr (.inr h)
theorem Dz{s:ByteArray}:∀{l:List ByteArray},PY l→PY (jS s l)
 | [],_=>List.pairwise_singleton _ _
 | a::l,h=>by
  have k:=List.pairwise_cons.1 h
  rw[jS]
  split
  ·rename_i hs
   refine List.pairwise_cons.2 ⟨fun x hx=>?_,h⟩
   rcases List.mem_cons.1 hx with rfl|hx
   ·exact hs
   ·exact pn hs (k.1 x hx)
  ·split
   ·exact h
   ·rename_i h1 h2
    refine List.pairwise_cons.2 ⟨fun x hx=>?_,Dz k.2⟩
    rcases wC.1 hx with rfl|hx
    ·rcases tT x a with h3|h3|h3
     ·exact absurd h3 h1
     ·exact absurd h3 h2
     ·exact h3
    ·exact k.1 x hx
theorem DA{s:ByteArray}:∀{l:List ByteArray},(jS s l).length≤l.length+1
 | []=>by simp[jS]
 | a::l=>by
  rw[jS];split
  ·simp
  ·split
   ·simp
   ·have:=DA (s:=s) (l:=l);simp;omega
def mq (l:List ByteArray):List ByteArray:=l.foldl (fun out s=>jS s out) []
theorem zi:∀(l out:List ByteArray),PY out→PY (l.foldl (fun out s=>jS s out) out)
 | [],_,h=>h
 | s::l,out,h=>zi l _ (Dz h)
theorem zj{x:ByteArray}:∀(l out:List ByteArray),x∈l.foldl (fun out s=>jS s out) out↔x∈l∨x∈out
 | [],_=>by simp
 | s::l,out=>by
  rw[List.foldl_cons,zj,wC,List.mem_cons]
  constructor
  ·rintro(h|h|h)
   ·exact .inl (.inr h)
   ·exact .inl (.inl h)
   ·exact .inr h
  ·rintro((h|h)|h)
   ·exact .inr (.inl h)
   ·exact .inl h
   ·exact .inr (.inr h)
theorem kT(l:List ByteArray):PY (mq l):=zi l [] List.Pairwise.nil
theorem kU{l:List ByteArray}{x:ByteArray}:x∈mq l↔x∈l:=by rw[mq,zj];simp
theorem vY(l:List ByteArray)(s:ByteArray):mq (l++[s])=jS s (mq l):=by rw[mq,List.foldl_append];rfl
theorem y5(l:List ByteArray):(mq l).length≤l.length:=by
 have:∀(l out:List ByteArray),(l.foldl (fun out s=>jS s out) out).length≤l.length+out.length:=by
  intro l
  induction l with
  | nil=>intro out;simp
  | cons s l ih=>intro out;rw[List.foldl_cons];have:=ih (jS s out);have:=DA (s:=s) (l:=out);simp;omega
 exact Nat.le_trans (this l []) (by simp)
theorem Rx(l:List ByteArray):(l.mergeSort GO).Pairwise fun a b=>GO a b=true:=List.pairwise_mergeSort LW LX l
theorem y9{l:List ByteArray}(h:l.Nodup):PY (l.mergeSort GO):=by
 have h1:=Rx l
 have h2:(l.mergeSort GO).Nodup:=(List.mergeSort_perm l GO).nodup_iff.2 h
 refine List.Pairwise.imp₂ (fun a b h3 h4=>?_) h1 h2
 rcases(vn a b).1 h3 with h5|h5
 ·exact h5
 ·exact absurd h5 h4
theorem ZK:Go.Vc.leB=GO:=rfl
theorem Gl{l:List ByteArray}(h:l.Nodup):l.mergeSort GO=mq l :=
 se (y9 h) (kT l) fun x=>by rw[(List.mergeSort_perm l GO).mem_iff,kU]
end Go.Proofs.YtbhigdljojlhnaaGreat

namespace Go.Proofs.YtbhigdljojlhnaaGreat
set_option linter.all false
open Go.Vc Go.Proofs
open Go.Vc.T (gi dm)
def Ag (s:Mt) (k:Key):Tb:=(bF s.aT k).getD []
noncomputable def gv (s:Mt) (t:Int) (v:Int) (n:ByteArray):Bool:=(aJ s t n []).2&&decide ((aJ s t n []).1.e.Ch=v)
def nJ (s:Mt) (l:List Key):List ByteArray:=l.flatMap fun k=>(Ag s k).map (·.1)
noncomputable def CZ (s:Mt) (t v:Int):List ByteArray:=mq ((nJ s (placesOf s t [])).filter (gv s t v))
noncomputable def AllOf (s:Mt) (t v:Int):List ByteArray×Int:=if (val s.L t&&fZ v)=false then ([],1) else (CZ s t v,0)
def Lc (l:List ByteArray):D:=sq (l.map fun n=>.agg (.cons (.val (.string n)) (.cons (.val (.bool true)) .nil)))
@[simp] theorem ae3:Lc []=.nil:=rfl
theorem vX:∀l:List ByteArray,mj (Lc l) l
 | []=>trivial
 | n::l=>⟨rfl,vX l⟩
@[simp] theorem adm(l:List ByteArray):(Lc l).free=true:=jL fun x hx=>by obtain⟨n,_,rfl⟩:=List.mem_map.1 hx;rfl
def C0 (l:List ByteArray) (n:ByteArray):List ByteArray:=if ZN l n=true then l else l++[n]
theorem sg(a:ByteArray)(l:List ByteArray):Lc (a::l)=.cons (.agg (.cons (.val (.string a)) (.cons (.val (.bool true)) .nil))) (Lc l):=rfl
@[simp] theorem ae4(a:ByteArray):(.cons (.agg (.cons (.val (.string a)) (.cons (.val (.bool true)) .nil))) .nil:D)=Lc [a]:=rfl
theorem VU(l:List ByteArray)(n:ByteArray):ig (.string n) (.val (.bool true)) (Lc l)=Lc (C0 l n):=by
 induction l with
 | nil=>rfl
 | cons a l ih =>
  rw[sg]
  unfold ig
  by_cases h:a=n
  ·rw[if_pos (o5.2 h)]
   subst h
   rw[C0,if_pos (lD.2 List.mem_cons_self),sg]
  ·rw[if_neg (fun q=>h (o5.1 q)),ih]
   unfold C0
   by_cases hm:n∈l
   ·rw[if_pos (lD.2 hm),if_pos (lD.2 (List.mem_cons_of_mem _ hm)),sg]
   ·rw[if_neg (fun h'=>hm (lD.1 h')),if_neg (fun h'=>by rcases List.mem_cons.1 (lD.1 h') with e|e;exact h e.symm;exact hm e)];rfl
@[simp] theorem adn(l:List ByteArray):fh .str (Lc l)=True:=by
 refine eq_true ?_
 induction l with
 | nil=>trivial
 | cons e l ih=>rw[sg];exact⟨⟨.string e,rfl,trivial⟩,ih⟩
theorem QK{l:List ByteArray}{n x:ByteArray}:x∈C0 l n↔x∈l∨x=n:=by
 unfold C0
 split
 ·rename_i h
  exact⟨.inl,fun h'=>by rcases h' with h'|rfl;exact h';exact lD.1 h⟩
 ·simp
theorem Gk{l:List ByteArray}{n:ByteArray}(h:l.Nodup):(C0 l n).Nodup:=by
 unfold C0
 split
 ·exact h
 ·rename_i hn
  rw[List.nodup_append]
  exact⟨h,by simp,fun a ha b hb=>by rw[List.mem_singleton] at hb;subst hb;exact fun q=>hn (lD.2 (q▸ha))⟩
theorem QJ{nb k:Nat}{p:Path}(hk:nb≤k):∀(j:Nat) (q:Path) (s:Bool),j<nb→dead [(k,p)] j q s=false:=fun j q s hj=>by
 have h2:¬j=k:=by omega
 simp[dead,h2]
def Ld (t:Tb) (j:Nat):ByteArray:=(t[j]?.map (·.1)).getD ⟨#[]⟩
theorem Gj{t:Tb}{j:Nat}(h:j<t.length):Ld t j=t[j].1:=by rw[Ld,List.getElem?_eq_getElem h];rfl
theorem VT{t:Tb}{j:Nat}(h:j<t.length):(uV t).nth j=.agg (.cons (.val (.string t[j].1)) (.cons (aK t[j].2) .nil)):=by rw[uV,ep (by simpa using h)];simp
theorem tK{α:Type}:∀{l m:List α},l.Nodup→(∀x∈l,x∈m)→l.length≤m.length
 | [],_,_,_=>by simp
 | a::l,m,h,hs=>by
  rw[List.nodup_cons] at h
  obtain⟨m1,m2,rfl⟩:=List.append_of_mem (hs a List.mem_cons_self)
  have:=tK (m:=m1++m2) h.2 fun x hx=>by
   have hx':=hs x (List.mem_cons_of_mem _ hx)
   simp only[List.mem_append,List.mem_cons] at hx' ⊢
   rcases hx' with h1|h1|h1
   ·exact .inl h1
   ·exact absurd (h1▸hx) h.1
   ·exact .inr h1
  simp only[List.length_append,List.length_cons] at this ⊢
  omega
end Go.Proofs.YtbhigdljojlhnaaGreat

namespace Go.Proofs.YtbhigdljojlhnaaGreat
set_option linter.all false
open Go.Vc Go.Proofs
set_option maxRecDepth 100000
set_option maxHeartbeats 4000000
attribute [local irreducible] bx jv
theorem vg{s:ByteArray}:∀{l:List ByteArray} {i:Nat},i≤l.length→(∀j,(h:j<l.length)→j<i→e8 s l[j]=false∧¬l[j]=s)→jS s l=l.take i++jS s (l.drop i)
 | l,0,_,_=>by simp
 | [],i+1,h,_=>by simp at h
 | a::l,i+1,h,hno=>by
  obtain⟨h1,h2⟩:=hno 0 (by simp) (by omega)
  simp only[List.getElem_cons_zero] at h1 h2
  rw[jS,if_neg (by rw[h1];simp),if_neg (fun e=>h2 e.symm),List.take_succ_cons,List.drop_succ_cons,List.cons_append]
  rw[vg (l:=l) (i:=i) (by simpa using h) fun j hj hji=>by
   have:=hno (j+1) (by simpa using hj) (by omega)
   simpa using this]
theorem VW{s:ByteArray}{l:List ByteArray}{i:Nat}(hi:i<l.length)(hno:∀j,(h:j<l.length)→j<i→e8 s l[j]=false∧¬l[j]=s)(he:l[i]=s):jS s l=l:=by
 rw[vg (Nat.le_of_lt hi) hno,List.drop_eq_getElem_cons hi,he,jS,if_neg (by rw[kV];simp),if_pos rfl]
 conv=>rhs;rw[←List.take_append_drop i l,List.drop_eq_getElem_cons hi,he]
theorem VX{s:ByteArray}{l:List ByteArray}{i:Nat}(hi:i<l.length)(hno:∀j,(h:j<l.length)→j<i→e8 s l[j]=false∧¬l[j]=s)(he:e8 s l[i]=true):jS s l=l.take i++[s]++l.drop i:=by
 rw[vg (Nat.le_of_lt hi) hno,List.drop_eq_getElem_cons hi,jS,if_pos he];simp
theorem QL{s:ByteArray}{l:List ByteArray}(hno:∀j,(h:j<l.length)→j<l.length→e8 s l[j]=false∧¬l[j]=s):jS s l=l++[s]:=by
 rw[vg (Nat.le_refl _) hno,List.take_length,List.drop_length];rfl
theorem yZ(l:List ByteArray)(s:ByteArray)(hl:l.length≤1000000):ai Tryz.prog 85 [] (.cons (.cA 1 (strs l) false) (.cons (.val (.string s)) .nil))
  fun av X κ=>av=.cA 1 (strs (jS s l)) false∧X=[]∧κ=[]:=by
 refine fb Tryz.func85 Tryz.ntmps85 [.tmp 4] fun w0 I0 F0 hF=>?_
 repeat first|refine n1 ?_|refine n3 ?_|(first|refine rg 0 [0,1] [0,1] [] ?_|refine rg 1 [0,1] [0,1,5] [] ?_);simp[hF]
 refine VS.rounds (fun m st=>∃(i:Nat),i+m=l.length∧(∀j,(h:j<l.length)→j<i→e8 s l[j]=false∧¬l[j]=s)∧st=⟨[(0,.cA 1 (strs l) false),(1,.val (.string s)),(5,ag i)],[],[],[]⟩) ⟨l.length,0,by omega,fun j h hj=>absurd hj (by omega),by simp⟩ ?_
 rintro m st ⟨i,hi,hno,rfl⟩
 repeat first|refine n1 ?_|(first|refine rg 2 [0,1,5] [0,1,5,9] [] ?_|refine nc ?_);simp[hF]
 refine⟨fun hlt=>?_,fun hge=>?_⟩
 ·have hi':i<l.length:=by omega
  have hn:=rZ hi'
  have hw:IntKind.i64.wrap ((i:Int)+1)=((i+1:Nat):Int):=by rw[IntWalk.i64_in _ (by omega)];rfl
  by_cases he:l[i]=s
  ·have hr:=VW hi' hno he
   repeat first|refine n1 ?_|refine n2 ?_|refine n3 ?_|(first|refine rg 4 [0,1,5] [0,1,5,17] [] ?_|refine rg 5 [0] [4] [] ?_|refine nc ?_);simp[hF,hn,hi',he]
   (try refine nr ?_);(repeat first|refine aF ?_|refine aG ?_);refine ak.o [4] [] [] ?_;simp[hF,an,aa,ah,hr]
  ·by_cases hs:e8 s l[i]=true
   ·have hr:=VX hi' hno hs
    have uq:(strs l).mid 0 i=strs (l.take i):=by rw[C1,List.drop_zero]
    have hm2:(strs l).mid i (l.length-i)=strs (l.drop i):=by rw[C1,List.take_of_length_le (by simp)]
    have hA:(l.take i).length=i:=by rw[List.length_take];omega
    have hB:(l.drop i).length=l.length-i:=List.length_drop ..
    rw[hr]
    generalize l.take i=A at *
    generalize l.drop i=B at *
    subst hA
    have hlen:A.length+1+(l.length-A.length)=l.length+1:=by omega
    have hm4:=Lf A s
    have e1:A.length≤l.length:=by omega
    have e2:A.length*16≤140737488355328:=by omega
    have e3:A.length≤9223372036854775807:=by omega
    have e4:(A.length+1)*16≤140737488355328:=by omega
    have e5:A.length≤9223372036854775806:=by omega
    have e6:(l.length+1)*16≤140737488355328:=by omega
    have e7:l.length+1≤9223372036854775807:=by omega
    have dD:(strs (A++[s])).app (strs B)=strs (A++[s]++B):=C2 ..
    repeat first|refine n1 ?_|refine n2 ?_|refine n3 ?_|(first|refine rg 4 [0,1,5] [0,1,5,17] [] ?_|refine rg 6 [0,1,5] [0,1,5,24] [] ?_|(refine dr 7 16 [0,1,5] [4] [] [⟨0,0,33554432,4⟩,⟨0,1,67108864,5⟩,⟨0,32,134217728,5⟩,⟨6,201326592,268435456,5⟩,⟨9,301989888,536870912,0⟩,⟨0,2,1073741824,5⟩,⟨32,1073741824,2147483648,4⟩,⟨80,2684354560,4294967296,0⟩,⟨0,1,8589934592,5⟩,⟨0,32,17179869184,5⟩,⟨768,25769803776,34359738368,5⟩,⟨1152,38654705664,68719476736,0⟩,⟨4095,68719476736,16,5⟩] (.take 1 (.take 2 (.take 3 (.take 5 (.take 8 (.take 9 (.take 10 (.fork (.alt 0 (.fork (.alt 4 (.fork (.alt 6 (.fork (.alt 7 (.fork (.alt 11 (.take 12 (.done)) (.nil))) (.nil))) (.nil))) (.alt 6 (.fork (.alt 4 (.fork (.alt 7 (.fork (.alt 11 (.take 12 (.done)) (.nil))) (.nil))) (.nil))) (.nil)))) (.alt 6 (.fork (.alt 0 (.fork (.alt 4 (.fork (.alt 7 (.fork (.alt 11 (.take 12 (.done)) (.nil))) (.nil))) (.nil))) (.nil))) (.nil))))))))))) (.run [1,2,3,5,8,9,10] (.both (.run [0] (.both (.eS 4 (.run [4,6,7,11,12] (.done))) (.run [6] (.eS 4 (.run [4,7,11,12] (.done)))))) (.run [6,0] (.eS 4 (.run [4,7,11,12] (.done)))))) ?_;simp only[nD])|refine nc ?_);simp[hF,hn,hi',he,hs,uq,hm2,hB,hlen,e1,e2,e3,e4,e5,e6,e7]
    have ZO:A++[s]++B=A++s::B:=by simp
    have hmid:(strs (A++s::B)).mid 0 (l.length+1)=strs (A++s::B):=by
     have hl2:(A++s::B).length=l.length+1:=by simp;omega
     rw[←hl2,Ah]
    refine⟨?_,?_⟩
    ·refine VS.fl 4 (by simp[hF]) ?_;simp[hF,St.fl]
     (try refine nr ?_);(repeat first|refine aF ?_|refine aG ?_);refine ak.o [4] [] [] ?_;simp[hF,an,aa,ah,ZO,hmid]
    ·refine VS.fl 4 (by simp[hF]) ?_;simp[hF,St.fl]
     (try refine nr ?_);(repeat first|refine aF ?_|refine aG ?_);refine ak.o [4] [] [] ?_;simp[hF,an,aa,ah,ZO,hmid]
   ·have hs0:e8 s l[i]=false:=by simpa using hs
    repeat first|refine n1 ?_|refine n2 ?_|refine n3 ?_|refine n4 ?_|refine n5 ?_|refine n6 ?_|(first|refine rg 3 [0,1,5] [0,1,5] [] ?_|refine rg 4 [0,1,5] [0,1,5,17] [] ?_|refine rg 6 [0,1,5] [0,1,5,24] [] ?_|refine nc ?_);simp[hF,hn,hi',he,hs0,hw]
    refine aO.of [0,1,5] [] (m-1) (by omega) (by simp[hF]) ?_
    refine⟨i+1,by omega,fun j hj hji=>?_,by simp⟩
    rcases Nat.lt_succ_iff_lt_or_eq.1 hji with h|rfl
    ·exact hno j hj h
    ·exact⟨hs0,he⟩
 ·obtain rfl:i=l.length:=by omega
  have hr:=QL hno
  rw[hr]
  repeat first|refine n1 ?_|refine n7 ?_|refine⟨⟨by omega,by omega⟩,?_⟩|refine rg 8 [0,1] [4] [] ?_;simp[hF]
  refine VS.fl 4 (by simp[hF]) ?_;simp[hF,St.fl]
  (try refine nr ?_);(repeat first|refine aF ?_|refine aG ?_);refine ak.o [4] [] [] ?_;simp[hF,an,aa,ah]
def Ai (t:Int) (x:RK×En):Bool:=decide (x.1.1.1=t)&&decide (x.1.1.2=-1)&&decide (x.2.body≠-1)
def tL (t:Int) (l:List (RK×En)):List ByteArray:=mq ((l.filter (Ai t)).map (·.1.2))
theorem Lg(t:Int)(l:List (RK×En))(x:RK×En):tL t (l++[x])=if Ai t x=true then jS x.1.2 (tL t l) else tL t l:=by
 unfold tL
 rw[List.filter_append]
 by_cases h:Ai t x=true
 ·rw[if_pos h,List.filter_cons_of_pos h,List.filter_nil,List.map_append,List.map_cons,List.map_nil,vY]
 ·rw[if_neg h,List.filter_cons_of_neg (by simpa using h),List.filter_nil,List.append_nil]
theorem C3(t:Int)(l:List (RK×En)):(tL t l).length≤l.length:=by
 unfold tL
 refine Nat.le_trans (y5 _) ?_
 rw[List.length_map]
 exact List.length_filter_le _ _
def eC (r:Rt) (t:Int):List ByteArray×Int:=if val r.R t=false then ([],1) else (tL t r.rows,0)
theorem Lh(r:Rt)(hl:r.rows.length≤100000)(t:Int):ai Tryz.prog 37 [aA r] (.cons (.ptr 0 [.d]) (.cons (ag t) .nil))
  fun av X κ=>av=fX (.cA 1 (strs (eC r t).1) false) (eC r t).2∧X=[aA r]∧κ=[]:=by
 refine fb Tryz.func37 Tryz.ntmps37 [.tmp 4,.tmp 5] fun w0 I0 F0 hF=>?_
 repeat first|refine n1 ?_|(first|refine rg 0 [0,1] [0,1] [] ?_|refine rg 1 [0,1] [0,1,12] [] ?_);simp[hF]
 refine(cU r t).go [(0,[])] (by simp[hF,aA]) ?_;rintro av X κ ⟨rfl,rfl,rfl⟩;simp[hF,aA]
 cases hv:val r.R t with
 | false =>
  have hr:eC r t=([],1):=by simp[eC,hv]
  rw[hr]
  repeat first|refine n1 ?_|(first|refine rg 2 [] [4,5] [] ?_|refine nc ?_);simp[hF]
  refine VS.dN 4 ?_;simp[hF,St.dN]
  (try refine nr ?_);(repeat first|refine aF ?_|refine aG ?_);refine ak.o [4,5] [0] [] ?_;simp[hF,an,aa,ah,aA]
 | true =>
  have hr:eC r t=(tL t r.rows,0):=by simp[eC,hv]
  rw[hr]
  repeat first|refine n1 ?_|refine n2 ?_|(first|refine rg 3 [0,1] [0,1,6] [] ?_|refine nc ?_);simp[hF]
  refine VS.dN 6 ?_;simp[hF,St.dN]
  repeat first|refine n3 ?_|refine rg 4 [0,1,6] [0,1,6,7] [] ?_;simp[hF]
  refine VS.rounds (fun m st=>∃(i:Nat),i+m=r.rows.length∧st=⟨[(0,.ptr 0 [.d]),(1,ag t),(6,.cA 1 (strs (tL t (r.rows.take i))) false),(7,ag i)],[aA r],[],[]⟩) ⟨r.rows.length,0,by omega,by simp[aA,tL,mq]⟩ ?_
  rintro m st ⟨i,hi,rfl⟩
  repeat first|refine n1 ?_|(first|refine rg 5 [0,1,6,7] [0,1,6,7,19] [] ?_|refine nc ?_);simp[hF,aA]
  refine⟨fun hlt=>?_,fun hge=>?_⟩
  ·have hil:i<r.rows.length:=by omega
   have hn:=lE hil
   have hw:IntKind.i64.wrap ((i:Int)+1)=((i+1:Nat):Int):=by rw[IntWalk.i64_in _ (by omega)];rfl
   have dQ:=Lg t (r.rows.take i) r.rows[i]
   rw[←List.take_succ_eq_append_getElem hil] at dQ
   have mu:=C3 t (r.rows.take i)
   rw[List.length_take] at mu
   obtain⟨⟨⟨⟨x1,x2⟩,x3⟩,x4⟩,hx⟩:∃x,r.rows[i]=x:=⟨_,rfl⟩
   rw[hx] at hn dQ
   have zY:=yZ (tL t (r.rows.take i)) x3 (by omega)
   generalize tL t (r.rows.take i)=q at *
   by_cases h1:x1=t
   ·by_cases h2:x2=-1
    ·by_cases h3:x4.body=-1
     ·rw[if_neg (by simp[Ai,h3])] at dQ
      repeat first|refine n1 ?_|refine n2 ?_|refine n3 ?_|refine n4 ?_|refine n5 ?_|refine n6 ?_|(first|refine rg 6 [0,1,6,7] [0,1,6,7] [] ?_|refine rg 7 [0,1,6,7] [0,1,6,7,8] [] ?_|refine rg 8 [0,1,6,7,8] [0,1,6,7,8,43] [(4,33),(9,38)] ?_|refine nc ?_);simp[hF,aA,hn,hil,xS,aK,h1,h2,h3,hw]
      refine aO.of [0,1,6,7] [0] (m-1) (by omega) (by simp[hF]) ?_
      exact⟨i+1,by omega,by rw[dQ];simp[aA]⟩
     ·rw[if_pos (by simp[Ai,h1,h2,h3])] at dQ
      repeat first|refine n1 ?_|refine n2 ?_|refine n3 ?_|(first|refine rg 7 [0,1,6,7] [0,1,6,7,8] [] ?_|refine rg 8 [0,1,6,7,8] [0,1,6,7,8,43] [(4,33),(9,38)] ?_|refine rg 9 [0,1,6,7,8] [0,1,6,7] [] ?_|refine nc ?_);simp[hF,aA,hn,hil,xS,aK,h1,h2,h3]
      refine(zY).go [] (by simp[hF,aA]) ?_;rintro av X κ ⟨rfl,rfl,rfl⟩;simp[hF,aA]
      repeat first|refine n4 ?_|refine n5 ?_|refine n6 ?_|refine rg 6 [0,1,6,7] [0,1,6,7] [] ?_;simp[hF,hw]
      refine aO.of [0,1,6,7] [0] (m-1) (by omega) (by simp[hF]) ?_
      exact⟨i+1,by omega,by rw[dQ];simp[aA]⟩
    ·rw[if_neg (by simp[Ai,h2])] at dQ
     repeat first|refine n1 ?_|refine n2 ?_|refine n3 ?_|refine n4 ?_|refine n5 ?_|refine n6 ?_|(first|refine rg 6 [0,1,6,7] [0,1,6,7] [] ?_|refine rg 7 [0,1,6,7] [0,1,6,7,8] [] ?_|refine rg 8 [0,1,6,7,8] [0,1,6,7,8,43] [(4,33),(9,38)] ?_|refine nc ?_);simp[hF,aA,hn,hil,xS,aK,h1,h2,hw]
     refine aO.of [0,1,6,7] [0] (m-1) (by omega) (by simp[hF]) ?_
     exact⟨i+1,by omega,by rw[dQ];simp[aA]⟩
   ·rw[if_neg (by simp[Ai,h1])] at dQ
    repeat first|refine n1 ?_|refine n2 ?_|refine n3 ?_|refine n4 ?_|refine n5 ?_|refine n6 ?_|(first|refine rg 6 [0,1,6,7] [0,1,6,7] [] ?_|refine rg 7 [0,1,6,7] [0,1,6,7,8] [] ?_|refine rg 8 [0,1,6,7,8] [0,1,6,7,8,43] [(4,33),(9,38)] ?_|refine nc ?_);simp[hF,aA,hn,hil,xS,aK,h1,hw]
    refine aO.of [0,1,6,7] [0] (m-1) (by omega) (by simp[hF]) ?_
    exact⟨i+1,by omega,by rw[dQ];simp[aA]⟩
  ·obtain rfl:i=r.rows.length:=by omega
   rw[List.take_length]
   repeat first|refine n1 ?_|refine n7 ?_|refine rg 10 [6] [4,5] [] ?_;simp[hF]
   (try refine nr ?_);(repeat first|refine aF ?_|refine aG ?_);refine ak.o [4,5] [0] [] ?_;simp[hF,an,aa,ah,aA]
noncomputable def tM (s:Mt) (t v:Int) (l:List (RK×En)):List ByteArray:=mq ((l.map (·.1.2)).filter (gv s t v))
theorem Li(s:Mt)(t v:Int)(l:List (RK×En))(x:RK×En):tM s t v (l++[x])=if gv s t v x.1.2=true then jS x.1.2 (tM s t v l) else tM s t v l:=by
 unfold tM
 rw[List.map_append,List.filter_append,List.map_cons,List.map_nil]
 by_cases h:gv s t v x.1.2=true
 ·rw[if_pos h,List.filter_cons_of_pos h,List.filter_nil,vY]
 ·rw[if_neg h,List.filter_cons_of_neg (by simpa using h),List.filter_nil,List.append_nil]
theorem C4(s:Mt)(t v:Int)(l:List (RK×En)):(tM s t v l).length≤l.length:=by
 unfold tM
 refine Nat.le_trans (y5 _) (Nat.le_trans (List.length_filter_le _ _) ?_)
 rw[List.length_map];exact Nat.le_refl _
noncomputable def iq (s:Mt) (r:Rt) (t v:Int):List ByteArray×Int:=if val s.L t=false then ([],1) else (tM s t v r.rows,0)
theorem Gm{c:Nat}{s:Mt}{r:Rt}(T:TR c s r)(hc:c≤100000)(t:Int)(ht:(aP s.L t).length≤1000)(n:ByteArray) :
  ai Tryz.prog 88 [aA r] (.cons (.ptr 0 [.d]) (.cons (.cA 1 (aj (aP s.L t)) false) (.cons (.val (.string n)) (.cons (.bE 1) .nil))))
  fun av X κ=>av=.cT (.cons (o6 (toldOf (aJ s t n [])).1) (.cons (ag (toldOf (aJ s t n [])).2) .nil))∧X=[aA r,.box true () (bR (toldOf (aJ s t n [])).1)]∧κ=[] :=
 ai.fy (tN T hc (aP s.L t) false ht n [] true (by simp))
theorem VY{c:Nat}{s:Mt}{r:Rt}(h:aR s)(T:TR c s r)(hc:c≤100000)(t v:Int)(hv:fZ v=true):ai Tryz.prog 40 [aA r] (.cons (.ptr 0 [.d]) (.cons (ag t) (.cons (ag v) .nil)))
  fun av X κ=>av=fX (.cA 1 (strs (iq s r t v).1) false) (iq s r t v).2∧X=[aA r]∧κ=[]:=by
 obtain⟨uA,tJ⟩:0≤v∧v≤2:=by simpa[fZ] using hv
 have QI:¬v<0:=by omega
 have hv4:¬2<v:=by omega
 have oF:=T.dX t
 have hl:r.rows.length≤100000:=Nat.le_trans T.cap.1 hc
 refine fb Tryz.func40 Tryz.ntmps40 [.tmp 6,.tmp 7] fun w0 I0 F0 hF=>?_
 repeat first|refine n1 ?_|(first|refine rg 0 [0,1,2] [0,1,2] [] ?_|refine rg 1 [0,1,2] [0,1,2,24] [(4,17),(8,21)] ?_);simp[hF]
 cases PX:val s.L t with
 | false =>
  rw[PX] at oF
  have hr:iq s r t v=([],1):=by simp[iq,PX]
  rw[hr]
  refine(cU r t).go [(0,[])] (by simp[hF,aA,oF]) ?_;rintro av X κ ⟨rfl,rfl,rfl⟩;simp[hF,aA,oF]
  repeat first|refine n1 ?_|(first|refine rg 2 [] [6,7] [] ?_|refine nc ?_);simp[hF]
  refine VS.dN 6 ?_;simp[hF,St.dN]
  (try refine nr ?_);(repeat first|refine aF ?_|refine aG ?_);refine ak.o [6,7] [0] [] ?_;simp[hF,an,aa,ah,aA]
 | true =>
  rw[PX] at oF
  have hr:iq s r t v=(tM s t v r.rows,0):=by simp[iq,PX]
  rw[hr]
  obtain⟨k,rfl,hk⟩:=bD PX
  have va:(aP s.L k).length≤1000:=by
   have W:=h.ok.wf
   exact W.base.elim fun _ B=>dW B hk (W.ord hk)
  have QM:=fun n=>Gm T hc k va n
  refine(cU r k).go [(0,[])] (by simp[hF,aA,oF,QI,hv4]) ?_;rintro av X κ ⟨rfl,rfl,rfl⟩;simp[hF,aA,oF,QI,hv4]
  repeat first|refine n1 ?_|refine n2 ?_|(first|refine rg 3 [0,1,2] [0,1,2,8] [] ?_|refine rg 4 [0,1,2,8] [0,2,8,9] [] ?_|refine nc ?_);simp[hF]
  refine(tO h T k hk).go [(0,[])] (by simp[hF,aA]) ?_;rintro av X κ ⟨rfl,rfl,rfl⟩;simp[hF,aA]
  repeat refine n1 ?_
  refine VS.dN 8 ?_;simp[hF,St.dN]
  repeat first|refine n3 ?_|refine rg 5 [0,2,8,9] [0,2,8,9,10] [] ?_;simp[hF]
  refine VS.rounds (fun m st=>∃(i:Nat),i+m=r.rows.length∧st=⟨[(0,.ptr 0 [.d]),(2,ag v),(8,.cA 1 (strs (tM s k v (r.rows.take i))) false),(9,.cA 1 (aj (aP s.L k)) false),(10,ag i)],[aA r],[],[]⟩) ⟨r.rows.length,0,by omega,by simp[aA,tM,mq]⟩ ?_
  rintro m st ⟨i,hi,rfl⟩
  repeat first|refine n1 ?_|(first|refine rg 6 [0,2,8,9,10] [0,2,8,9,10,34] [] ?_|refine nc ?_);simp[hF,aA]
  refine⟨fun hlt=>?_,fun hge=>?_⟩
  ·have hil:i<r.rows.length:=by omega
   have hn:=lE hil
   have hw:IntKind.i64.wrap ((i:Int)+1)=((i+1:Nat):Int):=by rw[IntWalk.i64_in _ (by omega)];rfl
   have dQ:=Li s k v (r.rows.take i) r.rows[i]
   rw[←List.take_succ_eq_append_getElem hil] at dQ
   have mu:=C4 s k v (r.rows.take i)
   rw[List.length_take] at mu
   obtain⟨⟨⟨⟨x1,x2⟩,x3⟩,x4⟩,hx⟩:∃x,r.rows[i]=x:=⟨_,rfl⟩
   rw[hx] at hn dQ
   have zY:=yZ (tM s k v (r.rows.take i)) x3 (by omega)
   have hgd:gv s k v x3=((aJ s k x3 []).2&&decide ((aJ s k x3 []).1.e.Ch=v)):=rfl
   have QM:=QM x3
   generalize tM s k v (r.rows.take i)=q at *
   generalize aJ s k x3 []=fo at *
   obtain⟨⟨fe,fth,fmd⟩,fb⟩:=fo
   cases fb with
   | false =>
    have nE:gv s k v x3=false:=by rw[hgd];rfl
    rw[if_neg (by rw[nE];simp)] at dQ
    repeat first|refine n1 ?_|refine n2 ?_|refine n3 ?_|refine rg 8 [0,2,8,9,10] [0,2,8,9,10,11,12] [] ?_;simp[hF,aA,hn,hil,xS,aK]
    refine(QM).go [(0,[])] (by simp[hF,aA,toldOf,bR,aK,Fo.none,En.none]) ?_;rintro av X κ ⟨rfl,rfl,rfl⟩;simp[hF,aA,toldOf,bR,aK,Fo.none,En.none]
    repeat first|refine n1 ?_|refine n2 ?_|refine n4 ?_|refine n5 ?_|refine n6 ?_|(first|refine rg 7 [0,2,8,9,10] [0,2,8,9,10] [] ?_|refine rg 9 [0,2,8,9,10,11,12] [0,2,8,9,10,59] [(2,53)] ?_|refine nc ?_);simp[hF,hw]
    refine aO.of [0,2,8,9,10] [0] (m-1) (by omega) (by simp[hF]) ?_
    exact⟨i+1,by omega,by rw[dQ];simp[aA]⟩
   | true =>
    by_cases uW:fe.Ch=v
    ·have nE:gv s k v x3=true:=by rw[hgd];simp[uW]
     rw[if_pos nE] at dQ
     repeat first|refine n1 ?_|refine n2 ?_|refine n3 ?_|refine rg 8 [0,2,8,9,10] [0,2,8,9,10,11,12] [] ?_;simp[hF,aA,hn,hil,xS,aK]
     refine(QM).go [(0,[])] (by simp[hF,aA,toldOf,bR,aK]) ?_;rintro av X κ ⟨rfl,rfl,rfl⟩;simp[hF,aA,toldOf,bR,aK]
     repeat first|refine n1 ?_|(first|refine rg 9 [0,2,8,9,10,11,12] [0,2,8,9,10,59] [(2,53)] ?_|refine rg 10 [0,2,8,9,10] [0,2,8,9,10] [] ?_|refine nc ?_);simp[hF,uW,hn,hil,xS]
     refine(zY).go [] (by simp[hF,aA]) ?_;rintro av X κ ⟨rfl,rfl,rfl⟩;simp[hF,aA]
     repeat first|refine n4 ?_|refine n5 ?_|refine n6 ?_|refine rg 7 [0,2,8,9,10] [0,2,8,9,10] [] ?_;simp[hF,hw]
     refine aO.of [0,2,8,9,10] [0] (m-1) (by omega) (by simp[hF]) ?_
     exact⟨i+1,by omega,by rw[dQ];simp[aA]⟩
    ·have nE:gv s k v x3=false:=by rw[hgd];simp[uW]
     rw[if_neg (by rw[nE];simp)] at dQ
     repeat first|refine n1 ?_|refine n2 ?_|refine n3 ?_|refine rg 8 [0,2,8,9,10] [0,2,8,9,10,11,12] [] ?_;simp[hF,aA,hn,hil,xS,aK]
     refine(QM).go [(0,[])] (by simp[hF,aA,toldOf,bR,aK]) ?_;rintro av X κ ⟨rfl,rfl,rfl⟩;simp[hF,aA,toldOf,bR,aK]
     repeat first|refine n1 ?_|refine n2 ?_|refine n4 ?_|refine n5 ?_|refine n6 ?_|(first|refine rg 7 [0,2,8,9,10] [0,2,8,9,10] [] ?_|refine rg 9 [0,2,8,9,10,11,12] [0,2,8,9,10,59] [(2,53)] ?_|refine nc ?_);simp[hF,uW,hw]
     refine aO.of [0,2,8,9,10] [0] (m-1) (by omega) (by simp[hF]) ?_
     exact⟨i+1,by omega,by rw[dQ];simp[aA]⟩
  ·obtain rfl:i=r.rows.length:=by omega
   rw[List.take_length]
   repeat first|refine n1 ?_|refine n7 ?_|refine rg 11 [8] [6,7] [] ?_;simp[hF]
   (try refine nr ?_);(repeat first|refine aF ?_|refine aG ?_);refine ak.o [6,7] [0] [] ?_;simp[hF,an,aa,ah,aA]
theorem C5(l:List Int):gK l []=l.map fun x=>(x,-1):=by
 induction l with
 | nil=>rfl
 | cons x l ih=>rw[si,ih];rfl
theorem Aj{c:Nat}{s:Mt}{r:Rt}(T:TR c s r)(hc:c≤100000)(l:List Int)(ht:l.length≤1000)(ex:Bool)(n:ByteArray) :
  ai Tryz.prog 88 [aA r] (.cons (.ptr 0 [.d]) (.cons (.cA 1 (aj l) ex) (.cons (.val (.string n)) (.cons (.bE 1) .nil))))
  fun av X κ=>av=.cT (.cons (o6 (toldOf (aY s (gK l []) n)).1) (.cons (ag (toldOf (aY s (gK l []) n)).2) .nil))∧X=[aA r,.box true () (bR (toldOf (aY s (gK l []) n)).1)]∧κ=[] :=
 ai.fy (tN T hc l ex ht n [] true (by simp))
theorem uC{c:Nat}{s:Mt}{r:Rt}(T:TR c s r)(hc:c≤100000)(l:List Int)(ht:l.length≤1000)(ex:Bool)(n:ByteArray) :
  ai Tryz.prog 88 [aA r] (.cons (.ptr 0 [.d]) (.cons (.cA 1 (aj l) ex) (.cons (.val (.string n)) (.cons (.bE 1) .nil))))
  fun av X κ=>av=.cT (.cons (o6 (toldOf (aY s (l.map fun x=>(x,-1)) n)).1) (.cons (ag (toldOf (aY s (l.map fun x=>(x,-1)) n)).2) .nil))∧X=[aA r,.box true () (bR (toldOf (aY s (l.map fun x=>(x,-1)) n)).1)]∧κ=[]:=by
 have h:=Aj T hc l ht ex n
 rw[C5] at h
 exact h
theorem C6{l:List Int}{x:Int}{i:Nat}(hi:i<l.length)(hno:∀j,(h:j<l.length)→j<i→¬l[j]=x)(he:l[i]=x):l.findIdx (fun y=>decide (y=x))=i:=by
 rw[List.findIdx_eq hi]
 refine⟨by simp[he],fun j hj=>?_⟩
 simpa using hno j (by omega) hj
theorem Lj{c:Nat}{s:Mt}{r:Rt}(h:aR s)(T:TR c s r)(hc:c≤100000)(t:Nat)(ht:t<s.L.length)(n:ByteArray)(hn:cS n=true)(f:Fo)(hf:val s.L f.th=true) :
  ai Tryz.prog 123 [aA r] (.cons (.ptr 0 [.d]) (.cons (ag t) (.cons (.val (.string n)) (.cons (o6 f) .nil))))
  fun av X κ=>av=.cT (.cons (o6 (toldOf (bZ s t n f.th f.md)).1) (.cons (ag (toldOf (bZ s t n f.th f.md)).2) .nil))∧X=[aA r,.box true () (bR (toldOf (bZ s t n f.th f.md)).1)]∧κ=[]:=by
 have oF:=T.dX t
 rw[show val s.L t=true by simp[val,ht]] at oF
 have hvf:=T.dX f.th
 rw[hf] at hvf
 have va:(aP s.L t).length≤1000:=h.ok.wf.base.elim fun _ B=>dW B ht (h.ok.wf.ord ht)
 rw[nK]
 obtain⟨⟨f1,f2,f3,f4⟩,f5,f6⟩:=f
 have hro:=tO h T t ht
 refine fb Tryz.func123 Tryz.ntmps123 [.cell 8 133,.tmp 9] fun w0 I0 F0 hF=>?_
 repeat first|refine n1 ?_|(first|refine rg 0 [0,1,2,3] [0,1,2,7,8] [] ?_|refine rg 1 [0,1,2,7,8] [0,1,2,7,8,22] [(4,16)] ?_);simp[hF]
 refine(cU r t).go [(0,[])] (by simp[hF,aA,oF]) ?_;rintro av X κ ⟨rfl,rfl,rfl⟩;simp[hF,aA,oF]
 refine(cU r f5).go [(0,[])] (by simp[hF,aA,hvf]) ?_;rintro av X κ ⟨rfl,rfl,rfl⟩;simp[hF,aA,hvf]
 repeat first|refine n1 ?_|refine n2 ?_|(first|refine rg 3 [0,1,2,7,8] [0,1,2,7,8,26] [] ?_|refine nc ?_);simp[hF]
 refine(jT n).go [] (by simp[hF,hn]) ?_;rintro av X κ ⟨rfl,rfl,rfl⟩;simp[hF,hn]
 repeat first|refine n1 ?_|refine n2 ?_|(first|refine rg 5 [0,1,2,7,8] [0,2,7,8,10] [] ?_|refine nc ?_);simp[hF]
 refine(hro).go [(0,[])] (by simp[hF,aA]) ?_;rintro av X κ ⟨rfl,rfl,rfl⟩;simp[hF,aA]
 generalize aP s.L t=od at *
 repeat first|refine n1 ?_|refine n3 ?_|refine rg 6 [0,2,7,8,10] [0,2,7,8,10,11] [] ?_;simp[hF]
 refine VS.pick [0,2,7,8,10,11] [0,1,2] (by simp[hF]) ?_;simp[hF]
 have adp:(∀j,(hj:j<od.length)→¬od[j]=f5)→f5∉od:=fun hall hm=>by
  obtain⟨j,hj,e⟩:=List.mem_iff_getElem.1 hm
  exact hall j hj e
 refine VS.rounds (fun m st=>∃(i:Nat),i+m=od.length∧(∀j,(hj:j<od.length)→j<i→¬od[j]=f5) ∧
  st=⟨[(0,.ptr 0 [.d]),(2,.val (.string n)),(7,.ptr 1 [.d]),(8,.ptr 2 [.d]),(10,.cA 1 (aj od) false),(11,ag i)],[aA r,.box true () (bR ⟨⟨f1,f2,f3,f4⟩,f5,f6⟩),.box true () (bR Fo.none)],[],[]⟩) ⟨od.length,0,by omega,(fun j hj h=>by omega),by simp[aA,bR,Fo.none,En.none,aK]⟩ ?_
 rintro m st ⟨i,hi,hall,rfl⟩
 repeat first|refine n1 ?_|(first|refine rg 7 [0,2,7,8,10,11] [0,2,7,8,10,11,34] [] ?_|refine nc ?_);simp[hF]
 refine⟨fun hlt=>?_,fun hge=>?_⟩
 ·have hil:i<od.length:=by omega
  have hnn:=bP hil
  have hw:IntKind.i64.wrap ((i:Int)+1)=((i+1:Nat):Int):=by rw[IntWalk.i64_in _ (by omega)];rfl
  by_cases he:od[i]=f5
  ·have QN:=C6 hil (fun j hj h=>hall j hj h) he
   have hmem:f5∈od:=he▸List.getElem_mem hil
   simp only[hmem,if_true,QN]
   by_cases hm:f6<0
   ·simp only[hm,if_true]
    have mu:(aj od).mid (i+1) (od.length-(i+1))=aj (od.drop (i+1)):=by rw[ju,List.take_of_length_le (by simp)]
    have QM:=uC T hc (od.drop (i+1)) (by rw[List.length_drop];omega) false n
    have hle:i+1≤od.length:=hil
    have hle2:((i+1:Nat):Int)≤od.length:=by omega
    generalize aY s ((od.drop (i+1)).map fun x=>(x,-1)) n=fo at *
    generalize od.drop (i+1)=od2 at *
    have QO:0≤(i:Int)+1:=by omega
    repeat first|refine n1 ?_|refine n2 ?_|refine n3 ?_|(first|(refine dr 9 0 [0,2,7,8,10,11] [0,2,7,8,10,11,43] [] [⟨0,1024,137438953472,5⟩,⟨0,2048,274877906944,5⟩,⟨3,412316860416,549755813888,5⟩,⟨4,549755813888,1099511627776,6⟩,⟨0,128,2199023255552,5⟩,⟨16,2199023255552,4398046511104,6⟩,⟨40,5497558138880,8796093022208,5⟩] (.take 0 (.take 1 (.take 2 (.take 3 (.take 4 (.take 5 (.take 6 (.done)))))))) (.run [0,1,2,3,4,5,6] (.done)) ?_;simp only[nD])|refine rg 10 [0,2,7,8,10,11] [0,2,8,10,11,46] [] ?_|refine rg 11 [0,2,8,10,11] [0,2,8,10,11] [] ?_|refine rg 12 [0,2,8,10,11] [8,9] [] ?_|refine nc ?_);simp[hF,hnn,hil,he,bR,aK,hm,hw,mu,hle,hle2,QO]
    refine(QM).go [(0,[])] (by simp[hF,aA,bR,aK]) ?_;rintro av X κ ⟨rfl,rfl,rfl⟩;simp[hF,aA,bR,aK]
    repeat refine n1 ?_
    (try refine nr ?_);(repeat first|refine aF ?_|refine aG ?_);refine ak.o [8,9] [0,2] [] ?_;simp[hF,an,aa,ah,aA,bR,aK]
   ·simp only[hm,if_false,Nat.add_zero]
    have mu:(aj od).mid i (od.length-i)=aj (od.drop i):=by rw[ju,List.take_of_length_le (by simp)]
    have QM:=uC T hc (od.drop i) (by rw[List.length_drop];omega) false n
    have hle:i≤od.length:=by omega
    generalize aY s ((od.drop i).map fun x=>(x,-1)) n=fo at *
    generalize od.drop i=od2 at *
    repeat first|refine n1 ?_|refine n2 ?_|refine n3 ?_|(first|(refine dr 9 0 [0,2,7,8,10,11] [0,2,7,8,10,11,43] [] [⟨0,1024,137438953472,5⟩,⟨0,2048,274877906944,5⟩,⟨3,412316860416,549755813888,5⟩,⟨4,549755813888,1099511627776,6⟩,⟨0,128,2199023255552,5⟩,⟨16,2199023255552,4398046511104,6⟩,⟨40,5497558138880,8796093022208,5⟩] (.take 0 (.take 1 (.take 2 (.take 3 (.take 4 (.take 5 (.take 6 (.done)))))))) (.run [0,1,2,3,4,5,6] (.done)) ?_;simp only[nD])|refine rg 10 [0,2,7,8,10,11] [0,2,8,10,11,46] [] ?_|refine rg 12 [0,2,8,10,11] [8,9] [] ?_|refine nc ?_);simp[hF,hnn,hil,he,bR,aK,hm,hw,mu,hle]
    refine(QM).go [(0,[])] (by simp[hF,aA,bR,aK]) ?_;rintro av X κ ⟨rfl,rfl,rfl⟩;simp[hF,aA,bR,aK]
    repeat refine n1 ?_
    (try refine nr ?_);(repeat first|refine aF ?_|refine aG ?_);refine ak.o [8,9] [0,2] [] ?_;simp[hF,an,aa,ah,aA,bR,aK]
  ·repeat first|refine n1 ?_|refine n2 ?_|refine n3 ?_|refine n4 ?_|refine n5 ?_|refine n6 ?_|(first|refine rg 8 [0,2,7,8,10,11] [0,2,7,8,10,11] [] ?_|(refine dr 9 0 [0,2,7,8,10,11] [0,2,7,8,10,11,43] [] [⟨0,1024,137438953472,5⟩,⟨0,2048,274877906944,5⟩,⟨3,412316860416,549755813888,5⟩,⟨4,549755813888,1099511627776,6⟩,⟨0,128,2199023255552,5⟩,⟨16,2199023255552,4398046511104,6⟩,⟨40,5497558138880,8796093022208,5⟩] (.take 0 (.take 1 (.take 2 (.take 3 (.take 4 (.take 5 (.take 6 (.done)))))))) (.run [0,1,2,3,4,5,6] (.done)) ?_;simp only[nD])|refine nc ?_);simp[hF,hnn,hil,he,bR,aK,hw]
   refine aO.of [0,2,7,8,10,11] [0,1,2] (m-1) (by omega) (by simp[hF]) ?_
   refine⟨i+1,by omega,fun j hj hji=>?_,by simp[aA,bR,Fo.none,En.none,aK]⟩
   rcases Nat.lt_succ_iff_lt_or_eq.1 hji with h|rfl
   ·exact hall j hj h
   ·exact he
 ·have hno:=adp fun j hj=>hall j hj (by omega)
  simp only[hno,if_false]
  repeat first|refine n1 ?_|refine n7 ?_|refine rg 13 [8] [8,9] [] ?_;simp[hF]
  (try refine nr ?_);(repeat first|refine aF ?_|refine aG ?_);refine ak.o [8,9] [0,2] [] ?_;simp[hF,an,aa,ah,aA,toldOf,bR,aK,Fo.none,En.none]
theorem C7{s:Mt}{t:Int}{n:ByteArray}{act:List Int}(h0:(aX s t n act).2=0):val s.L t=true∧cS n=true∧aX s t n act=((aJ s t n act).1,0)∧(aJ s t n act).2=true:=by
 unfold aX at h0 ⊢
 split at h0
 ·exact absurd h0 (by assumption)
 ·rename_i ha0
  rw[if_neg ha0]
  have ha:cB s t (qU s act) [n]=0:=by simpa using ha0
  unfold cB at ha
  split at ha
  ·cases ha
  ·rename_i h1
   split at ha
   ·cases ha
   ·rename_i h2
    have h1:val s.L t=true:=by
     cases hv:val s.L t with
     | true=>rfl
     | false=>rw[hv] at h1;exact absurd rfl h1
    refine⟨h1,by simpa using h2,?_⟩
    unfold toldOf at h0 ⊢
    split at h0
    ·cases h0
    ·rename_i hb
     rw[if_neg hb]
     exact⟨rfl,by simpa using hb⟩
theorem Ll{c:Nat}{s:Mt}{r:Rt}(h:aR s)(T:TR c s r)(hc:c≤100000)(t:Int)(n:ByteArray)(act:List Int)(ex:Bool)(ha:act.length≤1000)(he:¬(bp s t n act).2=0) :
  ai Tryz.prog 91 [aA r] (.cons (.ptr 0 [.d]) (.cons (ag t) (.cons (.val (.string n)) (.cons (.cA 1 (aj act) ex) .nil))))
  fun av X κ=>av=fX (.bE 6) (bp s t n act).2∧X=[aA r]∧κ=[]:=by
 have vW:=vZ h T hc t n act ex ha
 have he2:¬(aX s t n act).2=0:=by
  intro h0
  apply he
  unfold bp
  rw[if_neg (by simpa using h0)]
 have hce:(bp s t n act).2=(aX s t n act).2:=by
  unfold bp
  rw[if_pos he2]
 rw[hce]
 refine fb Tryz.func91 Tryz.ntmps91 [.tmp 8,.tmp 9] fun w0 I0 F0 hF=>?_
 repeat first|refine n1 ?_|(first|refine rg 0 [0,1,2,3] [0,1,2,3] [] ?_|refine rg 1 [0,1,2,3] [0,1,2,10,11] [] ?_);simp[hF]
 refine(vW).go [(0,[])] (by simp[hF,aA,bR,aK]) ?_;rintro av X κ ⟨rfl,rfl,rfl⟩;simp[hF,aA,bR,aK]
 repeat first|refine n1 ?_|(first|refine rg 2 [0,1,2,10,11] [0,1,2,10,11,22] [] ?_|refine rg 3 [11] [8,9] [] ?_|refine nc ?_);simp[hF,he2]
 (try refine nr ?_);(repeat first|refine aF ?_|refine aG ?_);refine ak.o [8,9] [0] [] ?_;simp[hF,an,aa,ah,aA]
theorem Gn{c:Nat}{s:Mt}{r:Rt}(h:aR s)(T:TR c s r)(hc:c≤100000)(t:Int)(n:ByteArray)(act:List Int)(ex:Bool)(ha:act.length≤1000)(he:(bp s t n act).2=0) :
  ai Tryz.prog 91 [aA r] (.cons (.ptr 0 [.d]) (.cons (ag t) (.cons (.val (.string n)) (.cons (.cA 1 (aj act) ex) .nil))))
  fun av X κ=>av=fX (.sub 1 [] 0 (bp s t n act).1.length false) 0∧X=[aA r,.sl true () 6 (kN (bp s t n act).1)]∧κ=[]:=by
 have vW:=vZ h T hc t n act ex ha
 have h0:(aX s t n act).2=0:=by
  unfold bp at he
  split at he
  ·exact absurd he (by assumption)
  ·rename_i h1;simpa using h1
 obtain⟨hv,hnm,Vb,hFt⟩:=C7 h0
 obtain⟨k,rfl,hk⟩:=bD hv
 have hmem:=C8 (s:=s) (t:=(k:Int)) (n:=n) (act:=act) (f:=(aJ s k n act).1) (by rw[←hFt])
 obtain⟨hnd,_,hvs⟩:=jx h.ok.wf hk
 have va:(aP s.L k).length≤1000:=h.ok.wf.base.elim fun _ B=>dW B hk (h.ok.wf.ord hk)
 have hc1:(bp s k n act).1=gl s k n (2*(aP s.L k).length+2) (aJ s k n act).1:=by
  simp only[bp,Vb];rfl
 rw[hc1]
 rw[Vb] at vW
 generalize (aJ s k n act).1=f0 at *
 generalize htot:gl s k n (2*(aP s.L k).length+2) f0=tot at *
 refine fb Tryz.func91 Tryz.ntmps91 [.tmp 8,.tmp 9] fun w0 I0 F0 hF=>?_
 repeat first|refine n1 ?_|(first|refine rg 0 [0,1,2,3] [0,1,2,3] [] ?_|refine rg 1 [0,1,2,3] [0,1,2,10,11] [] ?_);simp[hF]
 refine(vW).go [(0,[])] (by simp[hF,aA,bR,aK]) ?_;rintro av X κ ⟨rfl,rfl,rfl⟩;simp[hF,aA,bR,aK]
 repeat first|refine n1 ?_|refine n2 ?_|refine n3 ?_|(first|refine rg 2 [0,1,2,10,11] [0,1,2,10,11,22] [] ?_|refine rg 4 [0,1,2,10,11] [0,1,2,10,11,12] [] ?_|refine nc ?_);simp[hF]
 refine VS.eT 12 6 (by simp) ?_
 refine VS.pick [0,1,2,10,11,12] [0,2,3] (by simp[hF]) ?_;simp[hF]
 refine VS.rounds (fun m st=>∃(pre:List Fo) (f:Fo) (e:Int),((e=0∧tot=pre++gl s k n m f∧1≤m∧f.th∈aP s.L k∧2*(aP s.L k).length+1≤m+Gp (aP s.L k) f)∨(e=3∧tot=pre))∧pre.length+m≤2002 ∧
  st=⟨[(0,.ptr 0 [.d]),(1,ag k),(2,.val (.string n)),(10,.ptr 1 [.d]),(11,ag e),(12,.sub 2 [] 0 pre.length false)],[aA r,.box true () (bR f),.sl true () 6 (kN pre)],[],[]⟩) ⟨2*(aP s.L k).length+2,[],f0,0,.inl ⟨rfl,htot.symm,by omega,hmem.1,by omega⟩,by simp;omega,by simp[aA,kN,bR,aK]⟩ ?_
 rintro m st ⟨pre,f,e,hor,oE,rfl⟩
 rcases hor with ⟨rfl,hch,uq,tg,KU⟩|⟨rfl,hch⟩
 ·have hvf:val s.L f.th=true:=by
   obtain⟨h1,h2⟩:=hvs _ tg
   simp[val,h1,h2]
  have zY:=Lj h T hc k hk n hnm f hvf
  obtain⟨m,rfl⟩:∃m',m=m'+1:=⟨m-1,by omega⟩
  have hc2:gl s k n (m+1) f=f::if (bZ s k n f.th f.md).2=true then gl s k n m (bZ s k n f.th f.md).1 else []:=rfl
  rw[hc2] at hch
  have dD:=y6 pre f
  have b1:(pre.length+1)*56≤140737488355328:=by omega
  have b2:pre.length+1≤9223372036854775807:=by omega
  have hlen:(pre++[f]).length=pre.length+1:=by simp
  have hsp:∀g,bZ s k n f.th f.md=(g,true)→_:=fun g hg=>y7 hnd hg
  generalize bZ s k n f.th f.md=so at *
  obtain⟨g,gb⟩:=so
  simp only[bR,aK] at dD
  cases gb with
  | false =>
   simp only[Bool.false_eq_true,if_false] at hch
   repeat first|refine n1 ?_|refine n2 ?_|refine n3 ?_|(first|refine rg 5 [0,1,2,10,11,12] [0,1,2,10,12,25] [] ?_|refine rg 6 [0,1,2,10,12] [0,1,2,10,12] [] ?_|refine rg 7 [0,1,2,10,12] [0,1,2,10,11,12] [] ?_|refine nc ?_);simp[hF,bR,aK,dD,b1,b2]
   refine(zY).go [(0,[])] (by simp[hF,aA,bR,aK,toldOf]) ?_;rintro av X κ ⟨rfl,rfl,rfl⟩;simp[hF,aA,bR,aK,toldOf]
   repeat first|refine n4 ?_|refine n6 ?_
   refine aO.of [0,1,2,10,11,12] [0,1,2] (m) (by omega) (by simp[hF]) ?_
   exact⟨pre++[f],Fo.none,3,.inr ⟨rfl,hch⟩,by omega,by simp[aA,bR,aK]⟩
  | true =>
   simp only[if_true] at hch
   obtain⟨g1,g2,g3,g4⟩:=hsp g rfl
   have hpg:=Ak g1
   repeat first|refine n1 ?_|refine n2 ?_|refine n3 ?_|(first|refine rg 5 [0,1,2,10,11,12] [0,1,2,10,12,25] [] ?_|refine rg 6 [0,1,2,10,12] [0,1,2,10,12] [] ?_|refine rg 7 [0,1,2,10,12] [0,1,2,10,11,12] [] ?_|refine nc ?_);simp[hF,bR,aK,dD,b1,b2]
   refine(zY).go [(0,[])] (by simp[hF,aA,bR,aK,toldOf]) ?_;rintro av X κ ⟨rfl,rfl,rfl⟩;simp[hF,aA,bR,aK,toldOf]
   repeat first|refine n4 ?_|refine n6 ?_
   refine aO.of [0,1,2,10,11,12] [0,1,2] (m) (by omega) (by simp[hF]) ?_
   exact⟨pre++[f],g,0,.inl ⟨rfl,by rw[hch];simp,by omega,g1,by omega⟩,by omega,by simp[aA,bR,aK]⟩
 ·rw[hch]
  repeat first|refine n1 ?_|refine n7 ?_|(first|refine rg 5 [0,1,2,10,11,12] [0,1,2,10,12,25] [] ?_|refine rg 8 [12] [8,9] [] ?_|refine nc ?_);simp[hF]
  (try refine nr ?_);(repeat first|refine aF ?_|refine aG ?_);refine ak.o [8,9] [0,2] [] ?_;simp[hF,an,aa,ah,aA]
theorem C9(l:List ByteArray)(hl:l.length≤1000000):ai Tryz.prog 38 [aB l] (.cons (.sub 0 [] 0 l.length false) (.cons (.cA 1 (strs l) false) .nil))
  fun av X κ=>av=aN true∧X=[aB l]∧κ=[]:=by
 refine fb Tryz.func38 Tryz.ntmps38 [.tmp 4] fun w0 I0 F0 hF=>?_
 repeat first|refine n1 ?_|refine n2 ?_|refine n3 ?_|(first|refine rg 0 [0,1] [0,1] [] ?_|refine rg 1 [0,1] [0,1,10] [] ?_|refine rg 3 [0,1] [0,1,5] [] ?_|refine nc ?_);simp[hF,aB]
 refine VS.rounds (fun m st=>∃(i:Nat),i+m=l.length∧st=⟨[(0,.sub 0 [] 0 l.length false),(1,.cA 1 (strs l) false),(5,ag i)],[aB l],[],[]⟩) ⟨l.length,0,by omega,by simp[aB]⟩ ?_
 rintro m st ⟨i,hi,rfl⟩
 repeat first|refine n1 ?_|(first|refine rg 4 [0,1,5] [0,1,5,14] [] ?_|refine nc ?_);simp[hF,aB]
 refine⟨fun hlt=>?_,fun hge=>?_⟩
 ·have hi':i<l.length:=by omega
  have hn:=rZ hi'
  have hw:IntKind.i64.wrap ((i:Int)+1)=((i+1:Nat):Int):=by rw[IntWalk.i64_in _ (by omega)];rfl
  repeat first|refine n1 ?_|refine n2 ?_|refine n3 ?_|refine n4 ?_|refine n5 ?_|refine n6 ?_|(first|refine rg 5 [0,1,5] [0,1,5] [] ?_|(refine dr 6 0 [0,1,5] [0,1,5,25] [] [⟨0,1,131072,5⟩,⟨0,32,262144,5⟩,⟨3,393216,524288,5⟩,⟨4,524288,1048576,6⟩,⟨0,2,2097152,5⟩,⟨0,32,4194304,5⟩,⟨48,6291456,8388608,5⟩,⟨64,8388608,16777216,6⟩,⟨136,17825792,33554432,5⟩] (.take 0 (.take 1 (.take 2 (.take 3 (.take 4 (.take 5 (.take 6 (.take 7 (.take 8 (.done)))))))))) (.run [0,1,2,3,4,5,6,7,8] (.done)) ?_;simp only[nD])|refine nc ?_);simp[hF,aB,hn,hi',hw]
  refine aO.of [0,1,5] [0] (m-1) (by omega) (by simp[hF]) ?_
  exact⟨i+1,by omega,by simp[aB]⟩
 ·repeat first|refine n1 ?_|refine n7 ?_|refine rg 8 [] [4] [] ?_;simp[hF]
  (try refine nr ?_);(repeat first|refine aF ?_|refine aG ?_);refine ak.o [4] [0] [] ?_;simp[hF,an,aa,ah,aB]
theorem YA(f:Fo):ai Tryz.prog 90 [] (.cons (o6 f) .nil) fun av X κ=>av=o6 f∧X=[.box true () (bR f)]∧κ=[]:=by
 refine fb Tryz.func90 Tryz.ntmps90 [.cell 2 43] fun w0 I0 F0 hF=>?_
 repeat first|refine n1 ?_|(first|refine rg 0 [0] [1,2] [] ?_|refine rg 1 [1,2] [2] [] ?_);simp[hF]
 (try refine nr ?_);(repeat first|refine aF ?_|refine aG ?_);refine ak.o [2] [1] [] ?_;simp[hF,an,aa,ah,bR,aK]
theorem Gq{c:Nat}{s:Mt}{r:Rt}(h:aR s)(T:TR c s r)(hc:c≤100000)(t:Int)(n:ByteArray)(he:¬(bp s t n []).2=0) :
  ai Tryz.prog 91 [aA r] (.cons (.ptr 0 [.d]) (.cons (ag t) (.cons (.val (.string n)) (.cons (.bE 1) .nil))))
  fun av X κ=>av=fX (.bE 6) (bp s t n []).2∧X=[aA r]∧κ=[] :=
 ai.fy (Ll h T hc t n [] true (by simp) he)
theorem C'{c:Nat}{s:Mt}{r:Rt}(h:aR s)(T:TR c s r)(hc:c≤100000)(t:Int)(n:ByteArray)(he:(bp s t n []).2=0) :
  ai Tryz.prog 91 [aA r] (.cons (.ptr 0 [.d]) (.cons (ag t) (.cons (.val (.string n)) (.cons (.bE 1) .nil))))
  fun av X κ=>av=fX (.sub 1 [] 0 (bp s t n []).1.length false) 0∧X=[aA r,.sl true () 6 (kN (bp s t n []).1)]∧κ=[] :=
 ai.fy (Gn h T hc t n [] true (by simp) he)
theorem v7(o:Bool){s:Mt}(h:aR s)(t:Int)(n:ByteArray):ai Tryz.prog 24 [au o s] (.cons (.ptr 0 [.d]) (.cons (ag t) (.cons (.val (.string n)) (.cons (.bE 1) .nil))))
  fun av X κ=>(if (bp s t n []).2=0 then (∃ex,av=fX (.sub 1 [] 0 (bp s t n []).1.length ex) 0)∧X=[au o s,.sl true () 6 (kN (bp s t n []).1)] else av=fX (.bE 6) (bp s t n []).2∧X=[au o s])∧κ=[] :=
 ai.fy (QS o h t n [] true (by simp))
theorem Gr(o:Bool){s:Mt}(h:aR s)(t:Int)(n:ByteArray)(he:(bp s t n []).2=0):ai Tryz.prog 24 [au o s] (.cons (.ptr 0 [.d]) (.cons (ag t) (.cons (.val (.string n)) (.cons (.bE 1) .nil))))
  fun av X κ=>∃ex,av=fX (.sub 1 [] 0 (bp s t n []).1.length ex) 0∧X=[au o s,.sl true () 6 (kN (bp s t n []).1)]∧κ=[] :=
 ai.mono (v7 o h t n) fun av X κ q=>by
  rw[if_pos he] at q
  obtain⟨⟨⟨ex,h1⟩,h2⟩,h3⟩:=q
  exact⟨ex,h1,h2,h3⟩
theorem Lm(o:Bool){s:Mt}(h:aR s)(t:Int)(n:ByteArray)(he:¬(bp s t n []).2=0):ai Tryz.prog 24 [au o s] (.cons (.ptr 0 [.d]) (.cons (ag t) (.cons (.val (.string n)) (.cons (.bE 1) .nil))))
  fun av X κ=>av=fX (.bE 6) (bp s t n []).2∧X=[au o s]∧κ=[] :=
 ai.mono (v7 o h t n) fun av X κ q=>by
  rw[if_neg he] at q
  exact⟨q.1.1,q.1.2,q.2⟩
theorem VZ(o:Bool){c:Nat}{s:Mt}{r:Rt}(h:aR s)(T:TR c s r)(hc:c≤100000)(t:Int)(n:ByteArray) :
  ai Tryz.prog 41 [au o s,aA r] (.cons (FM 0 1) (.cons (ag t) (.cons (.val (.string n)) (.cons (.bE 1) .nil))))
  fun av X κ=>av=aN true∧X=[au o s,aA r]∧κ=[]:=by
 have f1:=sj o h t n
 have f2:=qa h T hc t n
 refine fb Tryz.func41 Tryz.ntmps41 [.tmp 8] fun w0 I0 F0 hF=>?_
 repeat first|refine n1 ?_|(first|refine rg 0 [0,1,2,3] [1,2,3,4] [] ?_|refine rg 1 [1,2,3,4] [1,2,3,4,9,10] [] ?_);simp[hF,au,aA]
 refine(f1).go [(0,[])] (by simp[hF,au,bR,aK]) ?_;rintro av X κ ⟨rfl,rfl,rfl⟩;simp[hF,au,bR,aK]
 generalize hF0:aX s t n []=fo at *
 obtain⟨f,e⟩:=fo
 repeat first|refine n1 ?_|refine rg 2 [1,2,3,4,9,10] [1,2,3,4,9,10,11,12] [] ?_;simp[hF]
 refine(f2).go [(1,[])] (by simp[hF,aA,bR,aK]) ?_;rintro av X κ ⟨rfl,rfl,rfl⟩;simp[hF,aA,bR,aK]
 repeat first|refine n1 ?_|(((refine dr 3 4 [1,2,3,4,9,10,11,12] [1,2,3,4,44] [(4,40)] [⟨0,512,68719476736,6⟩,⟨0,2048,137438953472,6⟩,⟨2,137438953472,274877906944,0⟩,⟨5,343597383680,549755813888,5⟩,⟨12,549755813888,1099511627776,5⟩,⟨16,1099511628800,2199023255552,5⟩,⟨16,1099511631872,4398046511104,5⟩,⟨112,7696581394432,8796093022208,5⟩,⟨144,9895604649984,17592186044416,5⟩] (.take 0 (.take 1 (.fork (.alt 2 (.take 3 (.take 4 (.take 5 (.take 6 (.take 7 (.take 8 (.done))))))) (.nil))))) (.run [0,1] (.eS 2 (.run [2,3,4,5,6,7,8] (.done)))) ?_;simp only[nD]));simp[hF])
 refine(YA f).go [] (by simp[hF,bR,aK]) ?_;rintro av X κ ⟨rfl,rfl,rfl⟩;simp[hF,bR,aK]
 refine adq ?_
 simp[hF]
 repeat first|refine n1 ?_|refine n2 ?_|refine nc ?_;simp[hF]
 refine VS.pick [1,2,3,4] [0,1,2] (by simp[hF]) ?_;simp[hF]
 by_cases he:(bp s t n []).2=0
 ·have c1:=Gr o h t n he
  have c2:=C' h T hc t n he
  have hfe:(aX s t n []).2=0:=by
   unfold bp at he
   split at he
   ·exact absurd he (by assumption)
   ·rename_i h1;simpa using h1
  obtain⟨k,rfl,hk⟩:=bD (C7 hfe).1
  have hlen:=Ln h hk n []
  generalize (bp s k n []).1=ch at *
  repeat first|refine rg 5 [1,2,3,4] [1,2,3,4,13,14] [] ?_;simp[hF]
  refine(c1).go [(0,[])] (by simp[hF,au]) ?_;rintro av X κ ⟨ex1,rfl,rfl,rfl⟩;simp[hF,au]
  repeat first|refine n1 ?_|refine rg 6 [1,2,3,4,13,14] [13,14,15,16] [] ?_;simp[hF]
  refine(c2).go [(1,[])] (by simp[hF,aA]) ?_;rintro av X κ ⟨rfl,rfl,rfl⟩;simp[hF,aA]
  repeat first|refine n1 ?_|refine n2 ?_|refine n3 ?_|(first|refine rg 7 [13,14,15,16] [13,15,72] [(3,66)] ?_|refine rg 9 [13,15] [13,15,17] [] ?_|refine nc ?_);simp[hF]
  refine VS.forget ?_;simp[hF,St.forget]
  refine VS.pick [13,15,17] [0,1,3,4] (by simp[hF]) ?_;simp[hF]
  refine VS.rounds (fun m st=>∃(i:Nat),i+m=ch.length∧st=⟨[(13,.sub 2 [] 0 ch.length ex1),(15,.sub 3 [] 0 ch.length false),(17,ag i)],[au o s,aA r,.sl true () 6 (kN ch),.sl true () 6 (kN ch)],[],[]⟩) ⟨ch.length,0,by omega,by simp[au,aA]⟩ ?_
  rintro m st ⟨i,hi,rfl⟩
  repeat first|refine n1 ?_|(first|refine rg 10 [13,15,17] [13,15,17,76] [] ?_|refine nc ?_);simp[hF]
  refine⟨fun hlt=>?_,fun hge=>?_⟩
  ·have hi':i<ch.length:=by omega
   have hn:=Da hi'
   have hw:IntKind.i64.wrap ((i:Int)+1)=((i+1:Nat):Int):=by rw[IntWalk.i64_in _ (by omega)];rfl
   generalize ch[i]=g at *
   repeat first|refine n1 ?_|refine n2 ?_|refine n3 ?_|(((refine dr 12 256 [13,15,17] [13,15,17,88] [] [⟨0,8192,604462909807314587353088,5⟩,⟨0,131072,1208925819614629174706176,5⟩,⟨3,1813388729421943762059264,2417851639229258349412352,5⟩,⟨4,2417851639229258349412352,4835703278458516698824704,6⟩,⟨0,32768,9671406556917033397649408,5⟩,⟨0,131072,19342813113834066795298816,5⟩,⟨48,29014219670751100192948224,38685626227668133590597632,5⟩,⟨64,38685626227668133590597632,77371252455336267181195264,6⟩,⟨128,77371252455336267181195264,154742504910672534362390528,0⟩,⟨264,159578208189131051061215232,309485009821345068724781056,5⟩] (.take 0 (.take 1 (.take 2 (.take 3 (.take 4 (.take 5 (.take 6 (.take 7 (.fork (.alt 8 (.take 9 (.done)) (.nil))))))))))) (.run [0,1,2,3,4,5,6,7] (.eS 8 (.run [8,9] (.done)))) ?_;simp only[nD]));simp[hF,hn,hi',bR,aK])
   refine(YA g).go [] (by simp[hF,bR,aK,hn,hi']) ?_;rintro av X κ ⟨rfl,rfl,rfl⟩;simp[hF,bR,aK,hn,hi']
   refine adq ?_
   simp[hF]
   repeat first|refine n2 ?_|refine n4 ?_|refine n5 ?_|refine n6 ?_|(first|refine rg 11 [13,15,17] [13,15,17] [] ?_|refine nc ?_);simp[hF,hw]
   refine aO.of [13,15,17] [0,1,2,3] (m-1) (by omega) (by simp[hF]) ?_
   exact⟨i+1,by omega,by simp⟩
  ·repeat first|refine n1 ?_|refine n7 ?_|refine rg 14 [] [8] [] ?_;simp[hF]
   (try refine nr ?_);(repeat first|refine aF ?_|refine aG ?_);refine ak.o [8] [0,1] [] ?_;simp[hF,an,aa,ah,au,aA]
 ·have c1:=Lm o h t n he
  have c2:=Gq h T hc t n he
  repeat first|refine rg 5 [1,2,3,4] [1,2,3,4,13,14] [] ?_;simp[hF]
  refine(c1).go [(0,[])] (by simp[hF,au]) ?_;rintro av X κ ⟨rfl,rfl,rfl⟩;simp[hF,au]
  repeat first|refine n1 ?_|refine rg 6 [1,2,3,4,13,14] [13,14,15,16] [] ?_;simp[hF]
  refine(c2).go [(1,[])] (by simp[hF,aA]) ?_;rintro av X κ ⟨rfl,rfl,rfl⟩;simp[hF,aA]
  repeat first|refine n1 ?_|refine n2 ?_|refine n3 ?_|(first|refine rg 7 [13,14,15,16] [13,15,72] [(3,66)] ?_|refine rg 9 [13,15] [13,15,17] [] ?_|refine nc ?_);simp[hF]
  refine VS.forget ?_;simp[hF,St.forget]
  refine VS.rounds (fun m st=>st=⟨[(13,.bE 6),(15,.bE 6),(17,ag 0)],[au o s,aA r,.box true () (.agg (.cons (.aH ()) (.cons (.aH ()) .nil)))],[],[]⟩) ⟨0,by simp[au,aA]⟩ ?_
  rintro m st rfl
  repeat first|refine n1 ?_|refine n7 ?_|(first|refine rg 10 [13,15,17] [13,15,17,76] [] ?_|refine rg 14 [] [8] [] ?_|refine nc ?_);simp[hF]
  (try refine nr ?_);(repeat first|refine aF ?_|refine aG ?_);refine ak.o [8] [0,1] [] ?_;simp[hF,an,aa,ah,au,aA]
end Go.Proofs.YtbhigdljojlhnaaGreat

namespace Go.Proofs.YtbhigdljojlhnaaGreat
set_option linter.all false
open Go.Vc Go.Proofs
theorem y8(s:Mt)(t:Int)(n:ByteArray):bF (o3 s t) n=iO s (t,-1) n:=by
 unfold o3 iO
 cases bF s.aT (t,-1)<;>rfl
theorem QT(s:Mt)(k:Key)(n:ByteArray):bF (Ag s k) n=iO s k n:=by
 unfold Ag iO
 cases bF s.aT k<;>rfl
theorem QU{s:Mt}(h:aR s)(t:Int):((o3 s t).map (·.1)).Nodup:=by
 unfold o3
 cases hg:bF s.aT (t,-1) with
 | none=>exact List.nodup_nil
 | some tb=>exact h.ns _ _ (fY hg)
theorem mem_keys{t:Tb}{n:ByteArray}:n∈t.map (·.1)↔∃e,bF t n=some e:=by
 constructor
 ·intro h
  cases hg:bF t n with
  | none=>exact absurd h (pY.1 hg)
  | some e=>exact⟨e,rfl⟩
 ·rintro⟨e,he⟩
  exact List.mem_map.2 ⟨_,fY he,rfl⟩
theorem Gs{l:List ByteArray}(h:PY l)(p:ByteArray→Bool):PY (l.filter p):=List.Pairwise.filter p h
theorem QV{c:Nat}{s:Mt}{r:Rt}(h:aR s)(T:TR c s r)(t:Int):kL s t=eC r t:=by
 unfold kL eC
 rw[T.dX t]
 split
 ·rfl
 ·refine congrArg (·,(0:Int)) (se (Gs (y9 (QU h t)) _) (kT _) fun n=>?_)
  unfold tH kD tL
  rw[List.mem_filter,decide_eq_true_eq,kU,List.mem_map]
  have hk:n∈eH (o3 s t)↔∃e,iO s (t,-1) n=some e:=by
   rw[eH,(List.mergeSort_perm _ _).mem_iff,mem_keys,y8]
  rw[hk,tG,y8,T.rows]
  constructor
  ·rintro⟨⟨e,he⟩,hb⟩
   rw[he] at hb
   exact⟨_,List.mem_filter.2 ⟨fY he,by simpa[Ai] using hb⟩,rfl⟩
  ·rintro⟨x,hx,rfl⟩
   obtain⟨h1,h2⟩:=List.mem_filter.1 hx
   simp only[Ai,Bool.and_eq_true,decide_eq_true_eq] at h2
   obtain⟨⟨⟨x1,x2⟩,x3⟩,x4⟩:=x
   obtain⟨⟨rfl,rfl⟩,h3⟩:=h2
   have hg:=mw T.nd h1
   rw[hg]
   exact⟨⟨x4,rfl⟩,h3⟩
theorem V0{s:Mt}{t v:Int}{n:ByteArray}(h:gv s t v n=true):∃k∈placesOf s t [],∃e,iO s k n=some e:=by
 unfold gv at h
 rw[Bool.and_eq_true] at h
 obtain⟨i,hi,h1,h2,_⟩:=jU (show aY s (placesOf s t []) n=((aJ s t n []).1,true) by rw[←h.1];rfl)
 exact⟨_,List.getElem_mem hi,_,by rw[h1];exact h2⟩
theorem all_eq{c:Nat}{s:Mt}{r:Rt}(T:TR c s r)(t v:Int)(hv:fZ v=true):AllOf s t v=iq s r t v:=by
 unfold AllOf iq
 rw[hv,Bool.and_true]
 split
 ·rfl
 ·refine congrArg (·,(0:Int)) (se (kT _) (kT _) fun n=>?_)
  unfold CZ tM
  rw[kU,kU,List.mem_filter,List.mem_filter]
  refine and_congr_left fun hg=>?_
  obtain⟨k,hk,e,he⟩:=V0 hg
  constructor
  ·intro _
   rw[T.rows] at he
   exact List.mem_map.2 ⟨_,fY he,rfl⟩
  ·intro _
   exact List.mem_flatMap.2 ⟨k,hk,mem_keys.2 ⟨e,by rw[QT];exact he⟩⟩
def sk (s:Mt):Prop:=∀k n e,iO s k n=some e→cS n=true
theorem sn{s:Mt}{t:Int}{dn:Bool}{n:ByteArray}(l:List ByteArray)(h:cS n=false):¬bK s t dn (n::l)=0:=by
 have ha:¬cB s t dn (n::l)=0:=by
  unfold cB
  split
  ·decide
  ·rw[List.all_cons,h,Bool.false_and,if_pos rfl];decide
 unfold bK
 split
 ·decide
 ·exact ha
theorem V1{s:Mt}{t:Int}{dn:Bool}{n:ByteArray}(l:List ByteArray)(h:cS n=false):¬cB s t dn (n::l)=0:=by
 unfold cB
 split
 ·decide
 ·rw[List.all_cons,h,Bool.false_and,if_pos rfl];decide
theorem ZP(s:Mt)(d:bT)(h:cS d.nm=false):(jV s d).aT=s.aT:=by
 unfold jV
 refine cZ (fun x:Mt=>x.aT=s.aT) ?_ (cZ (fun x:Mt=>x.aT=s.aT) ?_ (cZ (fun x:Mt=>x.aT=s.aT) ?_ (cZ (fun x:Mt=>x.aT=s.aT) ?_ (cZ (fun x:Mt=>x.aT=s.aT) ?_ (cZ (fun x:Mt=>x.aT=s.aT) ?_ (cZ (fun x:Mt=>x.aT=s.aT) ?_
  (cZ (fun x:Mt=>x.aT=s.aT) ?_ (cZ (fun x:Mt=>x.aT=s.aT) ?_ (cZ (fun x:Mt=>x.aT=s.aT) ?_ (cZ (fun x:Mt=>x.aT=s.aT) ?_ (cZ (fun x:Mt=>x.aT=s.aT) ?_ rfl)))))))))))
 all_goals first
  | rfl
  | (unfold bt;rw[if_neg (sn _ h)])
  | (unfold cC;rw[if_neg (V1 _ h)])
  | (unfold cq;rw[if_pos (sn _ h)])
  | (unfold bf;rw[if_pos (sn _ h)])
  | (unfold aliasOf;rw[if_pos (sn _ h)])
  | (unfold eD;rw[if_pos (sn _ h)])
  | (unfold cD;split<;>rfl)
theorem sk.aT{s s':Mt}(h:sk s)(e:s'.aT=s.aT):sk s':=fun k n x hx=>h k n x (by rw[←sr e];exact hx)
theorem sk.step{s:Mt}(h:sk s)(hs:aR s)(d:bT):sk (jV s d):=by
 cases hn:cS d.nm with
 | false=>exact h.aT (ZP s d hn)
 | true=>exact(Al s d).all hs (fun n _=>cS n=true) h fun _ _=>hn
theorem sk.adr(l:List bT):sk (jW l):=by
 suffices hh:∀(l:List bT) (s:Mt),aR s→sk s→sk (l.foldl jV s) from hh l s0 Db fun k n e he=>by cases he
 intro l
 induction l with
 | nil=>intro s _ h;exact h
 | cons d l ih=>intro s h1 h2;exact ih (jV s d) (tP h1 d) (h2.step h1 d)
def pairs (s:Mt):List RK:=s.aT.flatMap fun x=>x.2.map fun e=>(x.1,e.1)
theorem QW{s:Mt}(h:aR s):(pairs s).Nodup:=by
 have key:∀l:List (Key×Tb),(l.map (·.1)).Nodup→(∀k t,(k,t)∈l→(t.map (·.1)).Nodup)→(l.flatMap fun x=>x.2.map fun e=>((x.1,e.1):RK)).Nodup:=by
  intro l
  induction l with
  | nil=>intro _ _;exact List.nodup_nil
  | cons a l ih =>
   intro h1 h2
   rw[List.map_cons,List.nodup_cons] at h1
   rw[List.flatMap_cons,List.nodup_append]
   refine⟨?_,ih h1.2 fun k t hm=>h2 k t (List.mem_cons_of_mem _ hm),?_⟩
   ·have h3:=h2 a.1 a.2 List.mem_cons_self
    rw[List.Nodup,List.pairwise_map] at h3 ⊢
    exact h3.imp fun hne e=>hne (by injection e)
   ·intro x hx y hy e
    obtain⟨e1,_,rfl⟩:=List.mem_map.1 hx
    obtain⟨b,hb,hy⟩:=List.mem_flatMap.1 hy
    obtain⟨e2,_,rfl⟩:=List.mem_map.1 hy
    injection e with e3
    exact h1.1 (List.mem_map.2 ⟨b,hb,e3.symm⟩)
 exact key s.aT h.nd h.ns
theorem Lo(s:Mt):(pairs s).length=(s.aT.flatMap (·.2)).length:=by
 unfold pairs
 induction s.aT with
 | nil=>rfl
 | cons a l ih=>rw[List.flatMap_cons,List.flatMap_cons,List.length_append,List.length_append,ih,List.length_map]
theorem V2{c:Nat}{s:Mt}{r:Rt}(h:aR s)(T:TR c s r)(hc:c≤1000000)(hN:sk s):Fits s:=by
 have hin:∀k t,(k,t)∈s.aT→∀e∈t,iO s k e.1=some e.2:=fun k t hm e he=>by
  unfold iO
  rw[mw h.nd hm]
  exact mw (h.ns k t hm) he
 refine⟨?_,fun k t hm e he=>hN k e.1 e.2 (hin k t hm e he)⟩
 rw[←Lo]
 have:=tK (m:=r.rows.map (·.1)) (QW h) fun x hx=>by
  obtain⟨⟨k,t⟩,hm,hx⟩:=List.mem_flatMap.1 hx
  obtain⟨e,he,rfl⟩:=List.mem_map.1 hx
  have h1:=hin k t hm e he
  rw[T.rows] at h1
  exact List.mem_map.2 ⟨_,fY h1,rfl⟩
 rw[List.length_map] at this
 exact Nat.le_trans this (Nat.le_trans T.cap.1 hc)
end Go.Proofs.YtbhigdljojlhnaaGreat

namespace Go.Vc
set_option linter.all false
open T (cM blk)
def G2:Exit→Act→Prop
 | .panic _,_=>True
 | .outgrown,_=>True
 | _,a=>a.defers=[]
def DC (c:Cx) (code:Code) (K:Exit→St→Prop) (st:St):Prop :=
 ∀a w,a.defers=[]→Rel c st a w→code.wp c.P (fun e a w=>G2 e a∧∃st',K e st'∧Rel c st' a w) a w
section
variable {c:Cx} {K:Exit→St→Prop} {st:St}
theorem DC.mono{code:Code}{K':Exit→St→Prop}(h:DC c code K st)(hk:∀e st,K e st→K' e st):DC c code K' st :=
 fun a w hd hr=>wp_mono (h a w hd hr) fun _ _ _ ⟨h0,st',h1,h2⟩=>⟨h0,st',hk _ _ h1,h2⟩
theorem DC.mono'{code:Code}{K':Exit→St→Prop}(h:DC c code K st)(hk:∀e st a w,K e st→Rel c st a w→∃st',K' e st'∧Rel c st' a w):DC c code K' st :=
 fun a w hd hr=>wp_mono (h a w hd hr) fun _ _ _ ⟨h0,_,h1,h2⟩=>⟨h0,hk _ _ _ _ h1 h2⟩
theorem DC.seq{x y:Code}(h:DC c x (eN (DC c y K) K) st):DC c (.seq x y) K st :=
 fun a w hd hr=>wp_seq (wp_mono (h a w hd hr) fun e a w ⟨h0,st',h1,h2⟩=>by
  cases e with
  | normal=>exact h1 a w h0 h2
  | _=>exact⟨h0,st',h1,h2⟩)
theorem DC.skip(h:K .normal st):DC c .skip K st:=fun _ _ hd hr=>wp_skip ⟨hd,st,h,hr⟩
theorem DC.ret(h:K .ret st):DC c .ret K st:=fun _ _ hd hr=>wp_ret ⟨hd,st,h,hr⟩
theorem DC.exit{id:Nat}(h:K (.exit id) st):DC c (.exit id) K st:=fun _ _ hd hr=>wp_exit ⟨hd,st,h,hr⟩
theorem DC.cond{x:Operand}{t f:Code}(h:lT (st.ev x) (DC c t K st) (DC c f K st)):DC c (.cond x t f) K st:=fun a w hdf hr=>by
 obtain⟨hd,hs,I,F,hi,he,hp⟩:=id hr
 unfold lT at h
 split at h
 ·rename_i b hx
  have hv:=he.ev x
  rw[hx] at hv
  obtain⟨hv,_⟩:=hv
  injection hv with hv _
  exact wp_cond_split hv (fun hb=>h.1 hb a w hdf hr) (fun hb=>h.2 hb a w hdf hr)
 ·exact h.elim
theorem DC.block{id:Nat}{x:Code}(h:DC c x (mJ id K) st):DC c (.block id x) K st:=fun a w hd hr=>by
 refine wp_block (wp_mono (h a w hd hr) fun e a w ⟨h0,st',h1,h2⟩=>?_)
 cases e<;>simp only[Exit.inBlock,mJ] at *
 case exit j =>
  split at h1
  ·rename_i hj;rw[if_pos hj];exact⟨h0,st',h1,h2⟩
  ·rename_i hj;rw[if_neg hj];exact⟨h0,st',h1,h2⟩
 all_goals exact⟨h0,st',h1,h2⟩
theorem DC.loop{x:Code}(J:Nat→St→Prop)(h0:∃n,J n st)(hr:∀n st,J n st→DC c x (eN (fun st'=>∃m,m<n∧J m st') K) st) :
  DC c (.loop x) K st:=fun a w hd tX=>by
 let p:Act→World→Nat→Prop:=fun a w n=>a.defers=[]∧∃st,J n st∧Rel c st a w
 have hex:∀a w,(∃n,p a w n)→∃n,p a w n∧∀m,p a w m→n≤m:=fun a w h=>exists_least h
 let μ:Act→World→Nat:=fun a w=>@dite _ (∃n,p a w n) (Classical.propDecidable _) (fun h=>Classical.choose (hex a w h)) (fun _=>0)
 have hμ:∀a w (h:∃n,p a w n),p a w (μ a w)∧∀m,p a w m→μ a w≤m:=fun a w h=>by
  have:=Classical.choose_spec (hex a w h)
  simp only[μ,dif_pos h]
  exact this
 obtain⟨n,hn⟩:=h0
 refine wp_loop (fun a w=>∃n,p a w n) μ ⟨n,hd,st,hn,tX⟩ fun a w hI=>?_
 obtain⟨⟨hd,st,hJ,tX⟩,_⟩:=hμ a w hI
 refine wp_mono (hr _ st hJ a w hd tX) fun e a' w' ⟨h0,st',h1,h2⟩=>?_
 cases e with
 | normal =>
  obtain⟨m,hm,hJ'⟩:=h1
  have hI':∃n,p a' w' n:=⟨m,h0,st',hJ',h2⟩
  exact⟨hI',Nat.lt_of_le_of_lt ((hμ a' w' hI').2 m ⟨h0,st',hJ',h2⟩) hm⟩
 | _=>exact⟨h0,st',h1,h2⟩
theorem DC.ghost{code:Code}{st':St}(hg:∀a w,Rel c st a w→Rel c st' a w)(h:DC c code K st'):DC c code K st :=
 fun a w hd hr=>h a w hd (hg a w hr)
theorem DC.rounds{x:Code}(J:Nat→St→Prop)(h0:∃n,J n st)(hr:∀n st,J n st→DC c x (eN (aO c.F0.length J n) K) st):DC c (.loop x) K st:=by
 refine DC.loop (fun n st'=>J n st'∨∃ts cw,iF c.F0.length st'.X.length cw=true∧J n (st'.pick ts cw)) ?_ fun n st' hJ=>?_
 ·obtain⟨n,hn⟩:=h0;exact⟨n,.inl hn⟩
 ·have fin:∀i7,J n i7→DC c x (eN (fun st'=>∃m,m<n∧(J m st'∨∃ts cw,iF c.F0.length st'.X.length cw=true∧J m (st'.pick ts cw))) K) i7:=fun i7 hJ =>
   (hr n i7 hJ).mono fun e st hk=>by
    cases e with
    | normal=>obtain⟨ts,cw,m,h1,h2,h3⟩:=hk;exact⟨m,h1,.inr ⟨ts,cw,h2,h3⟩⟩
    | _=>exact hk
  rcases hJ with hJ|⟨ts,cw,hs,hJ⟩
  ·exact fin st' hJ
  ·exact DC.ghost (fun _ _ hr=>hr.pick ts hs) (fin _ hJ)
end
theorem vp{c:Cx}{τ:bg}(hτ:bg.Ok c.P τ){all:List Oper}{gs:List (Nat×Tmp)}(nh:oJ all gs=true){Q:Exit→Act→World→Prop}{tail:List Oper}{K:St→Prop}(hQ:∀st a w,a.defers=[]→K st→Rel c st a w→wpList c.P all.toArray Q tail a w) :
  ∀(l:List Oper) (i:Nat) (st:St) (a:Act) (w:World),dY c.nt l=true→a.defers=[]→Rel c st a w→eL c τ gs l i st K→wpList c.P all.toArray Q (l++tail) a w
 | [],_,st,a,w,_,hd,h,hv=>hQ st a w hd hv h
 | o::r,i,st,a,w,hl,hdf,h,hv=>by
  simp only[dY,List.all_cons,Bool.and_eq_true] at hl
  have iN:∀t,o.dst=some t→t<c.nt:=fun t ht=>by
   have:=hl.1;rw[ht] at this;exact Nat.le_of_ble_eq_true this
  have hput:∀v,(a.put o.dst v).defers=[]:=fun v=>by rw[←hdf];cases o.dst<;>rfl
  unfold eL at hv
  rw[List.cons_append]
  unfold wpList
  split at hv
  ·rename_i hg
   rw[if_pos (cV nh h hg)]
   refine .inl (zn hτ h hv fun av v st' w' h1 h2 _=>?_)
   obtain⟨i7,h3,h4⟩:=fM h1 h2 iN
   exact vp hτ nh hQ r (i+1) i7 _ w' hl.2 (hput v) h4 h3
  ·rename_i hg
   rw[cV nh h hg]
   simp only[Bool.false_eq_true,if_false]
   obtain⟨hd,hs,I,F,hi,he,hp⟩:=h
   exact vp hτ nh hQ r (i+1) _ _ w hl.2 (hput undef) (gr.put (av:=.cT .nil) (v:=undef) ⟨hd,hs,I,F,hi,he,hp,[],rfl,rfl⟩ iN) hv
  ·exact hv.elim
theorem RT{c:Cx}{τ:bg}(hτ:bg.Ok c.P τ){all:List Oper}{gs:List (Nat×Tmp)}(nh:oJ all gs=true){Q:Exit→Act→World→Prop}{K:St→Prop}(hQ:∀st a w,a.defers=[]→K st→Rel c st a w→Q .normal a w)
  (l:List Oper) (i:Nat) (st:St) (a:Act) (w:World) (h1:dY c.nt l=true) (h2:a.defers=[]) (h3:Rel c st a w) (h4:eL c τ gs l i st K):wpList c.P all.toArray Q l a w:=by
 have:=vp (tail:=[]) hτ nh (Q:=Q) (K:=K) hQ l i st a w h1 h2 h3 h4
 rwa [List.append_nil] at this
theorem DC.region{c:Cx}{τ:bg}(hτ:bg.Ok c.P τ){id:Nat}{ops:List Oper}{K:Exit→St→Prop}{st:St}(gs:List (Nat×Tmp))(hd:kE c.nt ops gs=true)
  (h:eL c τ gs ops 0 st (K .normal)):DC c (.region id ops.toArray false) K st:=fun a w hdf hr=>by
 simp only[kE,Bool.and_eq_true] at hd
 refine wp_region_list ?_
 have:=vp (tail:=[]) (Q:=fun e a w=>G2 e a∧∃st',K e st'∧Rel c st' a w) hτ hd.2 (fun st a w h0 h1 h2=>⟨h0,st,h1,h2⟩) ops 0 st a w hd.1 hdf hr h
 simpa using this
section
variable {c:Cx} {τ:bg} {ops:List Oper} {gs:List (Nat×Tmp)} {Q:Exit→Act→World→Prop}
theorem Mb(hτ:bg.Ok c.P τ)(nh:oJ ops gs=true)(hnt:dY c.nt ops=true){i:Nat}{st:St}{a:Act}{w:World}{K:St→Prop}(hdf:a.defers=[])(h:Rel c st a w)(hv:dz c τ gs ops i st K) :
  wpOp c.P ops.toArray Q i (fun a' w'=>(((ops.toArray[i]?).any fun o=>ff o.op||bG τ st o.op)=true→Ext w w')∧a'.defers=[]∧∃st',K st'∧Rel c st' a' w') a w:=by
 unfold dz az at hv
 unfold wpOp
 cases ho:ops[i]? with
 | none=>rw[ho] at hv;exact hv.elim
 | some o =>
  rw[ho] at hv
  have ho':ops.toArray[i]? = some o:=by simpa using ho
  simp only[ho']
  simp only at hv
  have iN:=rj hnt ho
  have hput:∀v,(a.put o.dst v).defers=[]:=fun v=>by rw[←hdf];cases o.dst<;>rfl
  have run:(cF c τ o st fun av st'=>eO gs i o.dst av st' K)→Region.wanted o (yielded ops.toArray a.tmps)=true →
    (if Region.wanted o (yielded ops.toArray a.tmps)=true then o.wp c.P a w (fun a' w'=>(((some o).any fun o=>ff o.op||bG τ st o.op)=true→Ext w w')∧a'.defers=[]∧∃st',K st'∧Rel c st' a' w') Q∨(o.asks c.P a w∧LetsOut Q)
     else (((some o).any fun o=>ff o.op||bG τ st o.op)=true→Ext w w)∧(a.put o.dst undef).defers=[]∧∃st',K st'∧Rel c st' (a.put o.dst undef) w):=fun hv hw=>by
   rw[if_pos hw]
   refine .inl (zn hτ h hv fun av v st' w' h1 h2 h3=>⟨fun he=>h3 (by simpa using he),hput v,?_⟩)
   exact fM h1 h2 iN
  cases hg:o.guard with
  | none =>
   rw[hg] at hv
   exact run hv (by simp[Region.wanted,hg])
  | some g =>
   rw[hg] at hv
   simp only at hv
   cases hb:guardOf gs st (some g) with
   | none=>rw[hb] at hv;exact hv.elim
   | some b =>
    rw[hb] at hv
    have hw:=cV nh h (o:=o) (b:=b) (by rw[hg];exact hb)
    cases b with
    | true=>exact run hv hw
    | false =>
     rw[if_neg (by rw[hw];simp)]
     obtain⟨hd,hs,I,F,hi,he,hp⟩:=h
     exact⟨fun _ _ _=>rfl,hput undef,_,hv,gr.put (av:=.cT .nil) (v:=undef) ⟨hd,hs,I,F,hi,he,hp,[],rfl,rfl⟩ iN⟩
theorem DV(hτ:bg.Ok c.P τ)(nh:oJ ops gs=true)(hnt:dY c.nt ops=true){EM:Nat}{i:Nat}{st:St}{a:Act}{w:World}{K:St→Prop}(hdf:a.defers=[])(h:Rel c st a w)(hf:qg EM τ ops i st)(hv:dz c τ gs ops i st K) :
  wpOp c.P ops.toArray Q i (fun a' w'=>(exts EM ops.toArray i=true→Ext w w')∧a'.defers=[]∧∃st',K st'∧Rel c st' a' w') a w:=by
 have h0:=Mb (Q:=Q) hτ nh hnt hdf h hv
 cases he:Nat.testBit EM i with
 | false =>
  refine wpOp_mono (fun a' w' h1=>⟨fun h2=>h1.1 ?_,h1.2⟩) h0
  simp only[exts,he,Bool.or_false] at h2
  cases ho:ops.toArray[i]? with
  | none=>rw[ho] at h2;exact h2
  | some o=>rw[ho] at h2;simp only[Option.any_some] at h2 ⊢;rw[h2];rfl
 | true =>
  by_cases hcs:((ops.toArray[i]?).any fun o=>bG τ st o.op)=true
  ·refine wpOp_mono (fun a' w' h1=>⟨fun _=>h1.1 ?_,h1.2⟩) h0
   cases ho:ops.toArray[i]? with
   | none=>rw[ho] at hcs;exact hcs
   | some o=>rw[ho] at hcs;simp only[Option.any_some] at hcs ⊢;rw[hcs];simp
  unfold wpOp at h0 ⊢
  cases ho:ops[i]? with
  | none=>unfold dz az at hv;rw[ho] at hv;exact hv.elim
  | some o =>
   rw[show ops.toArray[i]? = some o by simpa using ho] at h0 ⊢
   obtain⟨hg,hfr⟩:=hf he o ho
   have hw:Region.wanted o (yielded ops.toArray a.tmps)=true:=by simp[Region.wanted,hg]
   simp only[hw,if_true] at h0 ⊢
   unfold dz az at hv
   rw[ho] at hv
   simp only[hg] at hv
   obtain⟨v,w',hrun,GS⟩:=zq hτ h hv hfr (by rw[show ops.toArray[i]? = some o by simpa using ho] at hcs;simpa using hcs)
   rcases h0 with h0|h0
   ·refine .inl ?_
    unfold Oper.wp at h0 ⊢
    rw[hrun] at h0 ⊢
    exact⟨fun _=>GS,h0.2⟩
   ·exact .inr h0
theorem DW(hτ:bg.Ok c.P τ)(nh:oJ ops gs=true)(hnt:dY c.nt ops=true){i:Nat}{o:Oper}{st:St}{a:Act}{w:World}{K:St→Prop}(ho':ops[i]? = some o)(h5:(cW o.op||eX o.op)=true)(hr:Rel c st a w)(hv:dz c τ gs ops i st K) :
  ∃v st',dI c.P ops.toArray (fun w'=>cW o.op=true∨Ext w w') o v a∧K st'∧Rel c st' (a.put o.dst v) w:=by
 have iN:=rj hnt ho'
 obtain⟨hd,hs,I,F,hi,he,hp⟩:=id hr
 simp only[dz,az,ho'] at hv
 have run:(cF c τ o st fun av st'=>eO gs i o.dst av st' K)→Region.wanted o (yielded ops.toArray a.tmps)=true →
   ∃v st',dI c.P ops.toArray (fun w'=>cW o.op=true∨Ext w w') o v a∧K st'∧Rel c st' (a.put o.dst v) w:=fun hv hw=>by
  obtain⟨av,v,g1,g2,g3⟩:=AK hτ hi he hp h5 hv
  obtain⟨st',g4,g5⟩:=fM g1 ⟨hd,hs,I,F,hi,he,hp,g2⟩ iN
  exact⟨v,st',.inl ⟨hw,g3⟩,g4,g5⟩
 cases hg:o.guard with
 | none=>rw[hg] at hv;exact run hv (by simp[Region.wanted,hg])
 | some g =>
  rw[hg] at hv
  simp only at hv
  cases hb:guardOf gs st (some g) with
  | none=>rw[hb] at hv;exact hv.elim
  | some b =>
   rw[hb] at hv
   have hw:=cV nh hr (o:=o) (b:=b) (by rw[hg];exact hb)
   cases b with
   | true=>exact run hv hw
   | false=>exact⟨undef,_,.inr ⟨hw,rfl⟩,hv,gr.put (av:=.cT .nil) (v:=undef) ⟨hd,hs,I,F,hi,he,hp,[],rfl,rfl⟩ iN⟩
end
theorem DX{P:Program}{ops:List Oper}{Q:Exit→Act→World→Prop}(hsel:Region.noSelect ops.toArray=true){EM:Nat}{PW:bY→Act→World→Prop}(hWd:∀a w,PW .done a w→Q .normal a w)
  (hWt:∀i p o a w,ops[i]? = some o→(cW o.op||eX o.op)=true→PW (.take i p) a w→∃v,dI P ops.toArray (fun w'=>cW o.op=true∨Ext w w') o v a∧PW p (a.put o.dst v) w)
  (hWf:∀l a w,PW (.fork l) a w→PW l a w)
  (hWa:∀i p r a w,PW (.alt i p r) a w→wpOp P ops.toArray Q i (fun a' w'=>(exts EM ops.toArray i=true→Ext w w')∧PW p a' w') a w∧PW r a w)
  (hQp:∀ch a w d v,Q (.panic ch) (Act.put a d v) w→Q (.panic ch) a w):∀(p:bY),
  (∀(listed:Array Bool) (fuel:Nat) (a:Act) (w:World),p.gD=true→p.depth≤fuel→lP ops.toArray (exts EM ops.toArray) p listed→PW p a w→nT P .any ops.toArray (exts EM ops.toArray) Q fuel listed a w) ∧
  (∀(listed:Array Bool) (fuel:Nat) (a:Act) (w:World) (i:Nat),i∈p.alts→p.depth≤fuel+1→lP ops.toArray (exts EM ops.toArray) p listed→PW p a w →
   wpOp P ops.toArray Q i (fun a' w'=>(exts EM ops.toArray i=true→Ext w w')∧nT P .any ops.toArray (exts EM ops.toArray) Q fuel (listed.setIfInBounds i true) a' w') a w):=by
 intro p
 induction p with
 | done =>
  refine⟨fun listed fuel a w _ _ hok hv=>?_,fun _ _ _ _ _ h=>by cases h⟩
  exact uI hok (hWd a w hv) fuel
 | nil=>exact⟨fun _ _ _ _ h=>(by cases h),fun _ _ _ _ _ h=>(by cases h)⟩
 | take i p ih =>
  refine⟨fun listed fuel a w _ lQ hok hv=>?_,fun _ _ _ _ _ h=>by cases h⟩
  obtain⟨h1,⟨o,ho,h5,D,h6⟩,h3,h4⟩:=hok
  have ho':ops[i]? = some o:=by simpa using ho
  cases fuel with
  | zero=>simp[bY.depth] at lQ
  | succ fuel =>
   simp only[bY.depth] at lQ
   obtain⟨v,g1,g2⟩:=hWt i p o a w ho' h5 hv
   obtain⟨h61,h62,h63⟩:=h6
   refine sN (D:=D) ho (Region.noSelect_spec hsel) (fun ch a w=>hQp ch a w _ _) ?_ h61 fuel listed a w h62 ?_ h1 g1 (.inr fun _ _=>rfl)
    (ih.1 (listed.setIfInBounds i true) fuel _ w h3 (by omega) h4 g2)
   ·refine .inr fun w1 w2 hw hE=>?_
    rcases hw with hw|hw
    ·exact .inl hw
    ·refine .inr fun b hb=>?_
     have h7:=hw b hb
     have h8:b<w1.heap.size:=by
      rcases Nat.lt_or_ge b w1.heap.size with h'|h'
      ·exact h'
      ·rw[Array.getElem?_eq_none h',Array.getElem?_eq_getElem hb] at h7;cases h7
     rw[hE b h8,h7]
   ·intro j oj GR hne hun hD
    have:=h63 j oj GR hne hun hD
    exact⟨this.1,this.2.imp (fun h _=>.inl h) id⟩
 | fork l ih =>
  refine⟨fun listed fuel a w _ lQ hok hv=>?_,fun _ _ _ _ _ h=>by cases h⟩
  obtain⟨h1,h2,h3⟩:=hok
  have hne:∃i,i∈Region.ready .any ops.toArray listed:=List.exists_mem_of_ne_nil _ h1
  cases fuel with
  | zero =>
   obtain⟨i,hi⟩:=hne
   have:=h2 i hi
   cases l<;>simp[bY.alts,bY.depth] at this lQ
  | succ fuel =>
   exact⟨fun h=>absurd h h1,fun i hi=>ih.2 listed fuel a w i (h2 i hi) lQ h3 (hWf _ _ _ hv)⟩
 | alt i p r ihp ihr =>
  refine⟨fun _ _ _ _ h=>(by cases h),fun listed fuel a w j hj lQ hok hv=>?_⟩
  obtain⟨h2,h3,h4⟩:=hok
  simp only[bY.depth] at lQ
  obtain⟨uA,tJ⟩:=hWa _ _ _ _ _ hv
  by_cases hji:j=i
  ·subst hji
   refine wpOp_mono (fun a' w' ⟨g1,g2⟩=>⟨g1,?_⟩) uA
   exact ihp.1 (listed.setIfInBounds j true) fuel a' w' h2 (by omega) h3 g2
  ·exact ihr.2 listed fuel a w j (by simpa[bY.alts,hji] using hj) (by omega) h4 tJ
theorem DC.tY{P:Program}{nt:Nat}{w0:World}{I0:Nat→Prop}{F0:List G}{τ:bg}(hτ:bg.Ok P τ)(hm:P.follows .mixedOrders=true){id:Nat}{ops:List Oper}{K:Exit→St→Prop}{st:St}(EM:Nat)(gs:List (Nat×Tmp))(T:List Rw)(p:bY)(o:OP)
  (hT:ops.map (rowOf ops.toArray)=T) (hok:gm EM nt ops gs T p=true) (ho:lH EM p=o) (h:cg ⟨P,nt,w0,I0,F0⟩ τ gs ops o st (K .normal)):DC ⟨P,nt,w0,I0,F0⟩ (.region id ops.toArray true) K st:=fun a w hdf hr=>by
 subst ho
 simp only[gm,Bool.and_eq_true] at hok
 obtain⟨⟨⟨⟨⟨h1,h2⟩,h3⟩,h4⟩,h5⟩,h6⟩:=hok
 have hr':Rel ⟨P,nt,w0,I0,F0⟩ st a { w with drawn:=w.drawn+1 }:=hr.quiet rfl rfl rfl rfl
 have hall:=(DX (P:=P) (Q:=fun e a w=>e=.normal∧a.defers=[]∧∃st',K .normal st'∧Rel ⟨P,nt,w0,I0,F0⟩ st' a w) (EM:=EM)
  (PW:=fun p a w=>a.defers=[]∧∃st,cg ⟨P,nt,w0,I0,F0⟩ τ gs ops (lH EM p) st (K .normal)∧Rel ⟨P,nt,w0,I0,F0⟩ st a w) h3 (fun a w ⟨g0,st,g1,g2⟩=>⟨rfl,g0,st,g1,g2⟩)
  (fun i p o a w ho h5 ⟨g0,st,g1,g2⟩=>by
   obtain⟨v,st',k1,k2,k3⟩:=DW hτ h2 h1 ho h5 g2 (lU g1)
   exact⟨v,k1,by rw[←g0];cases o.dst<;>rfl,st',k2,k3⟩)
  (fun _ _ _ h=>h)
  (fun i p r a w ⟨g0,st,g1,g2⟩=>by
   obtain⟨k1,k2,k3⟩:=tZ g1
   exact⟨DV (c:=⟨P,nt,w0,I0,F0⟩) hτ h2 h1 g0 g2 k1 k2,g0,st,k3,g2⟩)
  (fun _ _ _ _ _ h=>by cases h.1) p).1
  (Array.replicate ops.length false) ops.length a _ h4 (Nat.le_of_ble_eq_true h5) (sK (AL EM hT) p _ 0 ⟨by simp,fun j=>by rw[jG];simp[Array.getElem?_replicate];split<;>rfl⟩ (fun i hi=>by cases p<;>simp[bY.gD,bY.alts] at hi h4) h6) ⟨hdf,st,h,hr'⟩
 have GW:(Code.region id ops.toArray true).wp P (fun e a w=>e=.normal∧a.defers=[]∧∃st',K .normal st'∧Rel ⟨P,nt,w0,I0,F0⟩ st' a w) a w:=wp_region_any hm (by simpa using nU _ _ _ _ hall)
 refine wp_mono GW fun e a w hq=>?_
 obtain⟨he,g0,st',g1,g2⟩:=hq
 subst he
 exact⟨g0,st',g1,g2⟩
end Go.Vc

namespace Go.Vd
set_option linter.all false
open Go Go.Vc
def VS (c:Cx):List Code→(Exit→St→Prop)→St→Prop
 | [],K,st=>K .normal st
 | x::l,K,st=>DC c x (eN (VS c l K) K) st
section
variable {c:Cx} {l:List Code} {K:Exit→St→Prop} {st:St}
theorem VS.nil(h:K .normal st):VS c [] K st:=h
theorem VS.seq{a b:Code}(h:VS c (a::b::l) K st):VS c (.seq a b::l) K st :=
 DC.seq (DC.mono h fun e st' hk=>by
  cases e with
  | normal=>exact hk
  | _=>exact hk)
theorem VS.skip(h:VS c l K st):VS c (.skip::l) K st:=DC.skip h
theorem VS.ret(h:K .ret st):VS c (.ret::l) K st:=DC.ret h
theorem VS.exit{i:Nat}(h:K (.exit i) st):VS c (.exit i::l) K st:=DC.exit h
theorem VS.region{τ:bg}(hτ:bg.Ok c.P τ){id:Nat}{ops:List Oper}(gs:List (Nat×Tmp))(hd:kE c.nt ops gs=true)(h:eL c τ gs ops 0 st (VS c l K)):VS c (.region id ops.toArray false::l) K st :=
 DC.region hτ gs hd h
theorem VS.cond{x:Operand}{t f:Code}(h:lT (st.ev x) (VS c (t::l) K st) (VS c (f::l) K st)):VS c (.cond x t f::l) K st:=DC.cond h
theorem VS.block{id:Nat}{x:Code}(h:VS c [x] (jd id (VS c l K) K) st):VS c (.block id x::l) K st :=
 DC.block (DC.mono h fun e st' hk=>by
  cases e with
  | exit j =>
   simp only[eN,jd,mJ] at hk ⊢
   split
   ·rename_i h;rw[if_pos h] at hk;exact hk
   ·rename_i h;rw[if_neg h] at hk;exact hk
  | _=>exact hk)
theorem VS.rounds{x:Code}(J:Nat→St→Prop)(h0:∃n,J n st)(hr:∀n st,J n st→VS c [x] (DY c.F0.length J n K) st):VS c (.loop x::l) K st :=
 DC.rounds J h0 fun n st' hJ=>DC.mono (hr n st' hJ) fun e i7 hk=>by
  cases e with
  | normal=>exact hk
  | _=>exact hk
theorem VS.ghost{x:Code}{st':St}(hg:∀a w,Rel c st a w→Rel c st' a w)(h:VS c (x::l) K st'):VS c (x::l) K st:=DC.ghost hg h
theorem VS.pick{x:Code}(ts:List Tmp)(cw:List Nat)(hs:iF c.F0.length st.X.length cw=true)(h:VS c (x::l) K (st.pick ts cw)):VS c (x::l) K st:=VS.ghost (fun _ _ hr=>hr.pick ts hs) h
theorem VS.lp{x:Code}(κ':List (Nat×Path))(h:st.κ.all (aa κ')=true)(hv:VS c (x::l) K { st with κ:=κ' }):VS c (x::l) K st :=
 VS.ghost (st':={ st with κ:=κ' }) (fun _ _ ⟨h1,h2,I,F,hi,he,hp⟩=>⟨h1,h2,I,F,hi.iY (κ':=κ') (fun _ _ _ _ hd=>iE h hd),he,hp⟩) hv
theorem VS.keep{x:Code}(ts:List Tmp)(h:VS c (x::l) K (st.keep ts)):VS c (x::l) K st:=VS.ghost (st':=st.keep ts) (fun _ _ hr=>hr.keep ts) h
theorem VS.tW(id:Nat){ops:Array Oper}{d:Bool}(ts:List Tmp)(h:VS c (.region id ops d::l) K (st.keep ts)):VS c (.region id ops d::l) K st:=VS.keep ts h
theorem VS.eT{x:Code}(t:Tmp)(z:Nat)(ht:kZ (Go.Vc.look st.env t)=true)(h:VS c (x::l) K (st.eT t z)):VS c (x::l) K st:=VS.ghost (fun _ _ hr=>hr.eT t z ht) h
theorem VS.lift{x:Code}(k:Nat)(q:Path)(hlen:k<st.X.length)(hok:(st.tree k).dU q=true)(hn:isNode ((st.tree k).at_ q)=true)(hne:T.noEntry true (st.tree k) q=true)(h:VS c (x::l) K (st.lift c.F0.length k q)):VS c (x::l) K st :=
 VS.ghost (fun _ _ hr=>hr.lift hlen hok hn hne) h
theorem VS.fl{x:Code}(t:Tmp)(hs:(Go.Vc.look st.env t).yf=true)(h:VS c (x::l) K (st.fl c.F0.length t)):VS c (x::l) K st:=VS.ghost (fun _ _ hr=>hr.fl t hs) h
theorem VS.er{x:Code}(k:Nat)(q:Path)(hlen:k<st.X.length)(hok:(st.tree k).dU q=true)(hne:T.noEntry true (st.tree k) q=true)
  (h:VS c (x::l) K (st.er c.F0.length k q)):VS c (x::l) K st:=VS.ghost (fun _ _ hr=>hr.er hlen hok hne) h
def uX (c:Cx) (l:List Code) (K:Exit→St→Prop) (ts:List Tmp) (st:St):Prop:=VS c l K (st.keep ts)
theorem wS(ts:List Tmp):uX c l K ts st=VS c l K (st.keep ts):=by rw[uX]
def RU:=@wS
attribute [simp] RU
theorem jN{x:Code}:VS c (x::l) K st=DC c x (eN (VS c l K) K) st:=rfl
theorem kX{x:Code}{post:List Tmp}(h:DC c x (eN (uX c l K post) K) st):DC c x (eN (VS c l K) K) st :=
 DC.mono' h fun e st a w hk hr=>by
  cases e with
  | normal =>
   have hk':uX c l K post st:=hk
   rw[wS] at hk'
   exact⟨_,hk',hr.keep post⟩
  | _=>exact⟨_,hk,hr⟩
attribute [irreducible] uX
@[congr] theorem Mc{ts:List Tmp}{st':St}(h:tick st=st'):uX c l K ts st=uX c l K ts st':=by rw[bl] at h;rw[h]
@[congr] theorem RV{st':St}(h:tick st=st'):VS c l K st=VS c l K st':=by rw[bl] at h;rw[h]
theorem VS.rg{τ:bg}(hτ:bg.Ok c.P τ)(id:Nat){ops:List Oper}(pre post:List Tmp)(gs:List (Nat×Tmp))(h:eL c τ gs ops 0 (st.keep pre) (uX c l K post))(hd:kE c.nt ops gs=true):VS c (.region id ops.toArray false::l) K st:=by
 refine VS.tW id pre ?_
 rw[jN]
 exact kX (DC.region hτ gs hd h)
theorem VS.dr{P:Program}{nt:Nat}{w0:World}{I0:Nat→Prop}{F0:List G}{τ:bg}(hτ:bg.Ok P τ)(hm:P.follows .mixedOrders=true)(id:Nat){ops:List Oper}(EM:Nat)(pre post:List Tmp)(gs:List (Nat×Tmp))(T:List Rw)(p:bY)(o:OP)
  (h:cg ⟨P,nt,w0,I0,F0⟩ τ gs ops o (st.keep pre) (uX ⟨P,nt,w0,I0,F0⟩ l K post))
  (hT:ops.map (rowOf ops.toArray)=T) (hok:gm EM nt ops gs T p=true) (ho:lH EM p=o):VS ⟨P,nt,w0,I0,F0⟩ (.region id ops.toArray true::l) K st:=by
 refine VS.tW id pre ?_
 rw[jN]
 exact kX (DC.tY hτ hm EM gs T p o hT hok ho h)
theorem n1{a b:Code}(h:VS c (a::b::l) K st):VS c (.seq a b::l) K st:=VS.seq h
theorem n2(h:VS c l K st):VS c (.skip::l) K st:=VS.skip h
theorem n3{id:Nat}{x:Code}(h:VS c [x] (jd id (VS c l K) K) st):VS c (.block id x::l) K st:=VS.block h
theorem n4(h:K .normal st):VS c [] K st:=VS.nil h
theorem n7{i:Nat}(h:K (.exit i) st):VS c (.exit i::l) K st:=VS.exit h
theorem nr(h:K .ret st):VS c (.ret::l) K st:=VS.ret h
theorem nc{x:Operand}{t f:Code}(h:lT (st.ev x) (VS c (t::l) K st) (VS c (f::l) K st)):VS c (.cond x t f::l) K st:=VS.cond h
theorem eP{x:Code}(k:Nat)(q:Path)(h:(k<st.X.length∧(st.tree k).dU q=true∧isNode ((st.tree k).at_ q)=true∧T.noEntry true (st.tree k) q=true)∧VS c (x::l) K (st.lift c.F0.length k q)):VS c (x::l) K st:=VS.lift k q h.1.1 h.1.2.1 h.1.2.2.1 h.1.2.2.2 h.2
end
theorem ai.Dn{P:Program}{τ:bg}(hτ:bg.Ok P τ){f:FuncId}{fn:Func}{body:Code}{Y:List D}{args:AV}{R:AV→List D→List (Nat×Path)→Prop}
  (hf:P.funcs[f]? = some fn) (hb:fn.body=some body) (hname:(fn.name == "runtime.NumGoroutine")=false) {nt:Nat} (hnt:fn.ntmps=nt) {rs:List ResultVar} (wq:fn.results.toList=rs)
  (hl:args.gT=true) (hlen:args.len≤nt) {st:St} (hst:⟨fG 0 args,Y,[],[]⟩=st)
  (h:∀w0 I0 F0,F0.length=Y.length→(∀b,I0 b→b<w0.heap.size)→VS ⟨P,nt,w0,I0,F0⟩ [body] (ak Y.length τ rs R) st):ai P f Y args R:=by
 subst hst
 refine⟨⟨fn,hf,by rw[hb];rfl,hname⟩,fun w I F0 vs hY hH hnd hap hlt hil hx=>?_⟩
 subst hnt
 subst wq
 have hvl:=Rl.sO hl hx
 refine callsIn_wide.1 (callsIn_of_wp_marks (F:=Fence.wide) (n:=0) hf hb trivial (wpIn_wide.2 ?_))
 have tX:Rel ⟨P,fn.ntmps,w,I,F0⟩ ⟨fG 0 args,Y,[],[]⟩ { tmps:=vs.toArray++Array.replicate (fn.ntmps-vs.toArray.size) undef,defers:=[] } w:=by
  refine⟨oI.none _ _,by simp;omega,I,F0,⟨hY,hH,hnd,hap,hlt,hil,rfl,rfl,rfl,Nat.le_refl _,fun _ _ _=>rfl,fun b hb _=>hb,fun _ h=>h,fun _ h=>.inl h,
   fun k g0 hg=>⟨g0,hg,rfl,fun _ _=>rfl,fun _ _=>rfl,fun _ _ h _=>h⟩⟩,fun t=>?_,fun k q av hm=>by cases hm⟩
  rcases Nat.lt_or_ge t vs.length with fW|fW
  ·refine sP 0 t hl hx _ (fun _=>?_) (fun h=>by omega)
   rw[List.getElem?_eq_getElem (by omega)]
   simp only[Array.getD_eq_getD_getElem?]
   rw[Array.getElem?_append_left (by simpa using fW)]
   simp[fW]
  ·rw[qh 0 t hl (by omega)];exact⟨_,rfl⟩
 have hend:∀(st:St) a w',(ni τ st fn.results.toList fun s=>R (kH s) st.X st.κ)→Rel ⟨P,fn.ntmps,w,I,F0⟩ st a w' →
   LeavesInM Fence.wide 0 P fn a.tmps (fun e w'=>∃v' av X κ I' F',e=.returned v'∧R av X κ∧Inv ⟨P,0,w,I,F0⟩ X κ w' I' F'∧Rl w'.heap I' F' av true [v']) a.defers .returning w':=by
  intro st a w0' h1 ⟨⟨Ds,hds,hdn,RW⟩,hs,I0',F',pQ,he0,P8⟩
  rw[hds]
  refine kQ Ds w0' hdn (fun D hD=>(RW D hD).2) fun w' DZ=>?_
  obtain⟨I',hi,he,hp⟩:=Rel.shut (c:=⟨P,fn.ntmps,w,I,F0⟩) hil pQ he0 P8 (fun D hD=>⟨(RW D hD).1,_,(RW D hD).2,trivial⟩) DZ
  obtain⟨s,ws,g1,g2,g3,g4⟩:=lV (c:=⟨P,fn.ntmps,w,I,F0⟩) hτ hi he hp _ _ h1
  have hi':Inv ⟨P,0,w,I,F0⟩ st.X st.κ w' I' F':=⟨hi.erase,hi.holds,hi.nodup,hi.apart,hi.lt,hi.ic,hi.os,hi.tape,hi.output,hi.size,hi.frame,hi.fresh,hi.ek,hi.gY,hi.base⟩
  have hm:(fn.results.mapM (uJ a.tmps)).run P w'=.ok ws.toArray w':=by
   rw[←Array.toArray_toList (xs:=fn.results),Array.mapM_eq_mapM_toList]
   simp only[Sem.run_map]
   rw[g4];rfl
  have hres:∃v,(results fn a.tmps).run P w'=.ok v w'∧Rl w'.heap I' F' (kH s) true [v]:=by
   rw[rq]
   simp only[Sem.run_bind,hm,Result.andThen_ok,Sem.run_pure]
   refine⟨_,rfl,?_⟩
   cases s with
   | nil=>cases g2;exact⟨[],rfl,rfl⟩
   | cons x r =>
    obtain⟨v,vs',e,k1,k2⟩:=id g2
    subst e
    cases r with
    | nil=>cases k2;simpa[kH] using k1
    | cons y r =>
     obtain⟨v2,vs2,e2,_,_⟩:=id k2
     subst e2
     simp only[kH]
     exact⟨v::v2::vs2,by simp,g2⟩
    | _=>cases g3
   | _=>cases g3
  obtain⟨v,g5,g6⟩:=hres
  exact⟨v,g5,v,_,_,_,I',F',rfl,g1,hi',g6⟩
 have hbody:VS ⟨P,fn.ntmps,w,I,F0⟩ [body] (ak Y.length τ fn.results.toList R) ⟨fG 0 args,Y,[],[]⟩:=h w I F0 (by rw[←hY];simp) hil
 rw[jN] at hbody
 refine wp_mono (hbody _ w rfl tX) fun e a w' ⟨_,st',hk,hr⟩=>?_
 have key:ak Y.length τ fn.results.toList R e st'→∃i7,an τ fn.results.toList R e i7∧Rel ⟨P,fn.ntmps,w,I,F0⟩ i7 a w':=fun ⟨ts,cw,κ',h1,h2,h3⟩ =>
  have ⟨g1,g2,I',F',hi,he,hp⟩:=hr.pick ts (cw:=cw) (by rw[←hY,List.length_map] at h1;exact h1)
  ⟨_,h3,g1,g2,I',F',hi.iY (κ':=κ') (fun _ _ _ _ hd=>iE (by simpa[St.pick] using h2) hd),he,hp⟩
 have hk':ak Y.length τ fn.results.toList R e st':=by cases e<;>exact hk
 obtain⟨st,h1,h2⟩:=key hk'
 cases e with
 | normal=>exact hend st a w' h1 h2
 | ret=>exact hend st a w' h1 h2
 | _=>exact h1.elim
theorem aar{c:Cx}{K:Exit→St→Prop}{st:St}:VS c [] K st=K .normal st:=rfl
attribute [irreducible] VS
end Go.Vd

namespace Go.Vc
set_option linter.all false
open T (cM blk)
open Go.ChangeMaps (setBlock)
theorem Inv.sL{c:Cx}{X:List D}{κ:List (Nat×Path)}{w w':World}{I:Nat→Prop}{F:List G}(hi:Inv c X κ w I F){r:Nat}(hr:c.w0.heap.size≤r)(hro:r∉own F)(hrI:¬I r)
  (h:∀b,b≠r→w'.heap[b]? = w.heap[b]?) (hsz:w.heap.size≤w'.heap.size) (hos:w'.os=w.os) (ht:w'.tape=w.tape) (hout:w'.output=w.output) :
  Inv c X κ w' I F∧∀{av m vs},Rl w.heap I F av m vs→Rl w'.heap I F av m vs:=by
 have hI:∀b,I b→w'.heap[b]? = w.heap[b]?:=fun b hb=>h b fun e=>hrI (e▸hb)
 have hF:∀g∈F,∀b∈g.owned,w'.heap[b]? = w.heap[b]?:=fun g hg b hb=>h b fun e=>hro (e▸List.mem_flatMap.2 ⟨g,hg,hb⟩)
 refine⟨⟨hi.erase,fun g hg=>(hi.holds g hg).agree (hF g hg) hI fun _ h=>h,hi.nodup,hi.apart,fun b hb=>Nat.lt_of_lt_of_le (hi.lt b hb) hsz,fun b hb=>Nat.lt_of_lt_of_le (hi.ic b hb) hsz,
  hos.trans hi.os,ht.trans hi.tape,hout.trans hi.output,Nat.le_trans hi.size hsz,fun b h1 h2=>(h b (by omega)).trans (hi.frame b h1 h2),hi.fresh,hi.ek,hi.gY,hi.base⟩,fun {av m vs} H =>
  H.agree hI (fun _ h=>h) (AV.fR (κ:=[]) (AV.ja _) (fun _ _ _ _=>rfl) (fun _ _ _ _=>rfl) H)⟩
def gZ (es:Array MapEntry) (S:List Nat):Array Nat:=(S.reverse.map fun i=>(es.getD i ⟨.nilIface,.nilIface,0⟩).born).toArray
theorem GZ(es:Array MapEntry)(S:List Nat)(i:Nat):(gZ es S).push (es.getD i ⟨.nilIface,.nilIface,0⟩).born=gZ es (i::S):=by
 simp[gZ]
theorem born_inj{es:Array MapEntry}(hn:(es.toList.map (·.born)).Nodup){i j:Nat}(hi:i<es.size)(hj:j<es.size)(h:es[i].born=es[j].born):i=j:=by
 have h1:i<(es.toList.map (·.born)).length:=by simpa using hi
 have h2:j<(es.toList.map (·.born)).length:=by simpa using hj
 have h3:(es.toList.map (·.born))[i]=(es.toList.map (·.born))[j]:=by simpa using h
 exact(List.getElem_inj hn).1 h3
theorem L9{es:Array MapEntry}{S:List Nat}(hn:(es.toList.map (·.born)).Nodup)(hS:∀j∈S,j<es.size)(h:(leftOf es (gZ es S)).size=0):∀i,i<es.size→i∈S:=by
 intro i hi
 by_cases hm:i∈S
 ·exact hm
 ·exfalso
  have hx:es[i]∈leftOf es (gZ es S):=by
   unfold leftOf
   refine Array.mem_filter.2 ⟨Array.getElem_mem hi,?_⟩
   simp only[Bool.not_eq_true',gZ]
   rw[←Bool.not_eq_true]
   intro hc
   simp only[List.contains_toArray,List.contains_iff_mem,List.mem_map,List.mem_reverse] at hc
   obtain⟨j,hj,e⟩:=hc
   have hjs:=hS j hj
   rw[Array.getD_eq_getD_getElem?,Array.getElem?_eq_getElem hjs,Option.getD_some] at e
   exact hm (born_inj hn hjs hi e▸hj)
  have:0<(leftOf es (gZ es S)).size:=Array.size_pos_iff.2 fun e=>by rw[e] at hx;simp at hx
  omega
theorem Ma{es:Array MapEntry}{S:List Nat}{e:MapEntry}(h:e∈(leftOf es (gZ es S)).toList):∃i,∃hi:i<es.size,es[i]=e∧i∉S:=by
 unfold leftOf at h
 rw[Array.mem_toList_iff] at h
 obtain⟨h1,h2⟩:=Array.mem_filter.1 h
 obtain⟨i,hi,rfl⟩:=Array.mem_iff_getElem.1 h1
 refine⟨i,hi,rfl,fun hS=>?_⟩
 rw[Bool.not_eq_true'] at h2
 rw[←Bool.not_eq_true] at h2
 refine h2 ?_
 simp only[gZ,List.contains_toArray,List.contains_iff_mem,List.mem_map,List.mem_reverse]
 exact⟨i,hS,by rw[Array.getD_eq_getD_getElem?,Array.getElem?_eq_getElem hi,Option.getD_some]⟩
theorem DT:∀{es:List MapEntry} {s:G},T.aD es s→∀{i:Nat} {e:MapEntry},es[i]? = some e →
  ∃v:G,s.nth i=.agg (.cons (T.gi e.key) (.cons v .nil))∧v.cells=e.val.cells.toList∧T.gM v=T.j9 e.val:=by
 intro es
 induction es with
 | nil=>intro s _ i e h;simp at h
 | cons x es ih =>
  intro s h i e he
  rcases bq h with ⟨h1,_⟩|⟨e0,es',v,t,h1,rfl,h2,h3,h4⟩
  ·cases h1
  ·cases h1
   cases i with
   | zero =>
    simp only[List.getElem?_cons_zero,Option.some.injEq] at he
    subst he
    exact⟨v,rfl,h2,h3⟩
   | succ i =>
    simp only[List.getElem?_cons_succ] at he
    exact ih h4 he
theorem AM:∀{es:List MapEntry} {s:G},T.aD es s→s.len=es.length:=by
 intro es
 induction es with
 | nil=>intro s h;rcases bq h with ⟨_,rfl⟩|⟨_,_,_,_,h,_⟩<;>first|rfl|cases h
 | cons x es ih =>
  intro s h
  rcases bq h with ⟨h1,_⟩|⟨e0,es',v,t,h1,rfl,h2,h3,h4⟩
  ·cases h1
  ·cases h1;simp[T.len,ih h4]
structure Head (c:Cx) (r bm:Nat) (es:Array MapEntry) (clock k:Nat) (q:Path) (S:List Nat) (st:St) (a:Act) (w:World):Prop where
 df:a.defers=[]
 sz:a.tmps.size=c.nt
 lo:c.w0.heap.size≤r
 it:w.heap[r]? = some (.mapIter (some bm) clock (gZ es S) clock)
 mp:w.heap[bm]? = some (.map es clock)
 ex:∃I F,Inv c st.X st.κ w I F∧bw st.env a w I F∧dS st.pl w I F∧I bm∧¬I r∧r∉own F∧∃z len,bM F k q=some (false,.map (some bm),z,len)
def lC (nb nb1:Nat) (κ0:List (Nat×Path)) (J:St→Prop):Exit→St→Prop
 | .normal,st=>∃ts cw,iF nb1 st.X.length cw=true∧(∀j q s,j<nb→dead st.κ j q s=false)∧J { st.pick ts cw with κ:=κ0 }
 | _,_=>False
theorem lC.of{nb nb1:Nat}{κ0:List (Nat×Path)}{J:St→Prop}{st:St}(ts:List Tmp)(cw:List Nat)(h:(iF nb1 st.X.length cw=true∧∀j q s,j<nb→dead st.κ j q s=false)∧J { st.pick ts cw with κ:=κ0 }):lC nb nb1 κ0 J .normal st :=
 ⟨ts,cw,h.1.1,h.1.2,h.2⟩
@[congr] theorem Wz{nb nb1:Nat}{κ0:List (Nat×Path)}{J:St→Prop}{e:Exit}{st st':St}(h:tick st=st'):lC nb nb1 κ0 J e st=lC nb nb1 κ0 J e st':=by rw[bl] at h;rw[h]
theorem lS{a:Act}{t u:Tmp}{v:Value}(h:t≠u):(a.put (some t) v).tmps.getD u undef=a.tmps.getD u undef:=DU (fun e=>h (by injection e))
theorem gh{a:Act}{t:Tmp}{v:Value}(h:t<a.tmps.size):(a.put (some t) v).tmps.getD t undef=v:=by
 simp[Act.put,Array.getD_eq_getD_getElem?,h]
theorem bw.put{e:Env}{a:Act}{w:World}{I:Nat→Prop}{F:List G}(h:bw e a w I F){t:Tmp}{av:AV}{v:Value}(ht:t<a.tmps.size)(hv:Rl w.heap I F av true [v]):bw ((t,av)::e) (a.put (some t) v) w I F:=fun u=>by
 simp only[look]
 by_cases e1:t=u
 ·subst e1;rw[if_pos rfl,gh ht];exact hv
 ·rw[if_neg e1,lS e1];exact h u
theorem RS{c:Cx}{st:St}{w:World}{I:Nat→Prop}{F:List G}{k bm z len clock n:Nat}{q:Path}{es:Array MapEntry}{sD:D}{kv:Nat→Value}{kA vA:Nat→AV}(hi:Inv c st.X st.κ w I F)(hp:dS st.pl w I F)(oE:st.pl=[])
  (ht:(st.X.getD k .nil).at_ q=.map false () sD) (hlen:sD.len=n) (hh:bM F k q=some (false,.map (some bm),z,len)) (hm:w.heap[bm]? = some (.map es clock))
  (hkey:∀i,i<n→∃v:D,sD.nth i=.agg (.cons (T.gi (kv i)) (.cons v .nil))∧(vA i=.bad∨(ei v false=true∧vA i=AV.pe [] k (q++[.i i,.f 1]) 0 v)))
  (hkA:∀i,i<n→∀h I F,Rl h I F (kA i) true [kv i]) :
  es.size=n∧MapKept.Stamped es clock∧∀i (hi:i<es.size),Rl w.heap I F (kA i) true [es[i].key]∧Rl w.heap I F (vA i) true [es[i].val]:=by
 unfold bM at hh
 cases hf:F[k]? with
 | none=>rw[hf] at hh;simp at hh
 | some f =>
  rw[hf] at hh
  simp only[Option.bind_some] at hh
  have vo:(f.at_ q).erase=.map false () sD:=by
   rw[T.bJ,←ht]
   rw[←hi.erase,List.getD_eq_getElem?_getD,List.getElem?_map,hf];rfl
  obtain⟨a0,s0,WA,hs0⟩:∃a0 s0,f.at_ q=.map false a0 s0∧s0.erase=sD:=by
   generalize f.at_ q=fq at vo
   cases fq<;>simp only[T.erase] at vo<;>cases vo
   exact⟨_,_,rfl,rfl⟩
  have hH:=(hi.holds f (List.mem_of_getElem? hf)).at_ q
  rw[WA] at hH hh
  simp only[cM,Option.some.injEq,Prod.mk.injEq] at hh
  obtain⟨_,rfl,_,_⟩:=hh
  obtain⟨H1,_,_,es',cl,hr,qC,hst⟩:=hH
  rw[hm] at hr
  injection hr with hr
  injection hr with e1 e2
  subst e1 e2
  have hsz:es.size=n:=by
   rw[←hlen,←hs0,T.cX,AM qC];simp
  refine⟨hsz,hst,fun i hi'=>?_⟩
  obtain⟨x,x1,x2,x3⟩:=DT qC (i:=i) (e:=es[i]) (by rw[Array.getElem?_toList,Array.getElem?_eq_getElem hi'])
  obtain⟨v,v1,v2⟩:=hkey i (by omega)
  have x4:sD.nth i=.agg (.cons (T.gi es[i].key) (.cons x.erase .nil)):=by
   rw[←hs0,←T.jH,x1];simp[T.erase,T.cN]
  rw[x4] at v1
  simp only[T.agg.injEq,T.cons.injEq,and_true] at v1
  obtain⟨v3,rfl⟩:=v1
  have AN:es[i].key=kv i:=T.dm v3
  refine⟨by rw[AN];exact hkA i (by omega) _ _ _,?_⟩
  rcases v2 with v2|⟨hrow,v2⟩
  ·rw[v2];exact⟨_,rfl⟩
  ·rw[v2]
   rw[ke] at hrow
   have hHx:T.Holds w.heap I x:=by
    have:=T.Holds.nth H1 i
    rw[x1] at this
    exact this.2.1
   have hat:f.at_ (q++[.i i,.f 1])=x:=by
    rw[T.cY,WA]
    simp only[T.at_,x1,T.nth]
   rw[oE] at hp
   have hrl:=G1 hp hf x false (q++[.i i,.f 1]) 0 hrow hHx (fun _=>hat) (fun h=>by cases h)
   rw[x2] at hrl
   have hform:=sM [] k (q++[.i i,.f 1]) x.erase
   by_cases ha:T.gM x=true
   ·have Cj:=ha;rw[x3] at Cj
    obtain⟨s',hs'⟩:=(Kv (pl:=[]) (k:=k) (q:=q++[.i i,.f 1]) hrow).2 ha
    rw[hs'] at hrl ⊢
    cases hval:es[i].val<;>rw[hval] at Cj hrl<;>simp only[T.j9] at Cj<;>first|cases Cj|skip
    exact⟨_,by simp[Value.cells],hrl⟩
   ·have Cj:T.j9 es[i].val=false:=by rw[←x3];simpa using ha
    rw[kY Cj] at hrl
    rcases hform.2 (fun s' hs'=>ha (by cases x<;>simp[T.erase] at hs';rfl)) (by rw[ke];exact hrow) with h1|h1
    ·exact Rl.flip h1 hrl
    ·rw[h1];exact⟨_,rfl⟩
end Go.Vc

namespace Go.Vd
set_option linter.all false
open Go Go.Vc
open Go.ChangeMaps (setBlock)
theorem bk:∀(n:Nat) (S:List Nat),S.Nodup→(∀j∈S,j<n)→S.length≤n
 | 0,S,_,h=>by cases S with
  | nil=>simp
  | cons x S=>have:=h x List.mem_cons_self;omega
 | n+1,S,hn,h=>by
  have ih:=bk n (S.erase n) (hn.erase n) (fun j hj=>by
   obtain⟨h1,h2⟩:=(hn.mem_erase_iff).1 hj
   have:=h j h2;omega)
  have hl:S.length≤(S.erase n).length+1:=by
   by_cases hm:n∈S
   ·have:=List.length_erase_of_mem hm;omega
   ·rw[List.erase_of_not_mem hm];omega
  omega
section
variable {c:Cx} {τ:bg} {jb i8 i9 jc:Nat} {tn tk te ti:Tmp} {LP PZ Wl:TypeId} {p1 p2 p3:String} {f1 f2 f3:Array Edge} {sC:List Oper} {rest:Code} {K:Exit→St→Prop}
theorem AO{Q:Exit→Act→World→Prop}{a:Act}{w w2:World}{vs:Array Value}{b:Bool}(hs:tn<a.tmps.size)(hne:tn≠tk)(hv:vs[0]? = some (.bool b))
  (hrun:(Instr.next (a.eval (.tmp ti)) false LP).run c.P w=.ok (.tuple vs) w2) (h:Q .normal ((a.put (some tn) (.tuple vs)).put (some tk) (.bool b)) w2) :
  (Code.region i8 [⟨some tn,.next (.tmp ti) false,LP,p1,f1,none⟩,⟨some tk,.extract (.tmp tn) 0,PZ,p2,f2,none⟩].toArray false).wp c.P Q a w:=by
 refine wp_region_list ?_
 show wpList c.P _ Q [⟨some tn,.next (.tmp ti) false,LP,p1,f1,none⟩,⟨some tk,.extract (.tmp tn) 0,PZ,p2,f2,none⟩] a w
 unfold wpList
 rw[if_pos (by simp[Region.wanted])]
 refine .inl ?_
 have h1:(execOp a.eval ⟨some tn,.next (.tmp ti) false,LP,p1,f1,none⟩).run c.P w=.ok (.value (.tuple vs)) w2:=by
  simp only[execOp];exact j8 hrun
 unfold Oper.wp
 rw[h1]
 show wpList c.P _ Q [⟨some tk,.extract (.tmp tn) 0,PZ,p2,f2,none⟩] _ w2
 unfold wpList
 rw[if_pos (by simp[Region.wanted])]
 refine .inl ?_
 have h2:(execOp (a.put (some tn) (.tuple vs)).eval ⟨some tk,.extract (.tmp tn) 0,PZ,p2,f2,none⟩).run c.P w2=.ok (.value (.bool b)) w2:=by
  have he:(a.put (some tn) (.tuple vs)).eval (.tmp tn)=.tuple vs:=gh hs
  simp[execOp,he,Instr.extract,hv]
 unfold Oper.wp
 rw[h2]
 exact h
theorem G3(hτ:bg.Ok c.P τ)(gs:List (Nat×Tmp))(hn:tn<c.nt)(hk:tk<c.nt)(he:te<c.nt)(hne:ti≠tn∧ti≠tk∧tn≠tk){n k:Nat}{q:Path}{sD:D}{kv:Nat→Value}{kA vA:Nat→AV}(hk0:k<c.F0.length)
  {κ0:List (Nat×Path)} {J:Value→List Nat→St→Prop} (hJ:∀p S st,J p S st→st.κ=κ0∧st.pl=[]∧Go.Vc.look st.env ti=.val p∧(st.X.getD k .nil).at_ q=.map false () sD) (hlen:sD.len=n)
  (hkey:∀i,i<n→∃v:D,sD.nth i=.agg (.cons (T.gi (kv i)) (.cons v .nil))∧(vA i=.bad∨(ei v false=true∧vA i=AV.pe [] k (q++[.i i,.f 1]) 0 v)))
  (hkA:∀i,i<n→∀h I F,Rl h I F (kA i) true [kv i])
  (hok:kE c.nt (⟨some te,.entry (.tmp ti),Wl,p3,f3,none⟩::sC) gs=true)
  (hB:∀p S i st,J p S st→i<n→i∉S→S.Nodup→(∀j∈S,j<n)→∀w1 I1 F1,F1.length=st.X.length→(∀b,I1 b→b<w1.heap.size) →
   eL ⟨c.P,c.nt,w1,I1,F1⟩ τ gs sC 1 ⟨(te,.cT (.cons (kA i) (.cons (vA i) .nil)))::(tk,.bad)::(tn,.bad)::st.env,st.X,[],st.pl⟩ (VS ⟨c.P,c.nt,w1,I1,F1⟩ [rest] (lC c.F0.length st.X.length κ0 (J p (i::S)))))
  (hE:∀p S st,J p S st→(∀i,i<n→i∈S)→S.Nodup→(∀i∈S,i<n)→K (.exit jb) ⟨(tk,.bad)::(tn,.bad)::st.env,st.X,st.κ,st.pl⟩)
  {S:List Nat} {st:St} {r bm clock:Nat} {es:Array MapEntry} {a:Act} {w:World} (h0:J (.pointer (some ⟨r,0,none⟩)) S st) (h1:S.Nodup) (h2:∀j∈S,j<n) (H:Head c r bm es clock k q S st a w) :
  (Code.loop (.seq (.region i8 [⟨some tn,.next (.tmp ti) false,LP,p1,f1,none⟩,⟨some tk,.extract (.tmp tn) 0,PZ,p2,f2,none⟩].toArray false) (.seq (.cond (.tmp tk) .skip (.exit jb))
   (.block jc (.seq (.region i9 (⟨some te,.entry (.tmp ti),Wl,p3,f3,none⟩::sC).toArray false) rest))))).wp c.P (fun e a w=>G2 e a∧∃st',K e st'∧Rel c st' a w) a w:=by
 refine wp_loop (fun a w=>∃S st,J (.pointer (some ⟨r,0,none⟩)) S st∧S.Nodup∧(∀j∈S,j<n)∧Head c r bm es clock k q S st a w)
  (fun a w=>match w.heap[r]? with|some (.mapIter _ _ s _)=>n+1-s.size|_=>0) ⟨S,st,h0,h1,h2,H⟩ ?_
 clear H h2 h1 h0 a w S st
 rintro a w ⟨S,st,h0,h1,h2,H⟩
 obtain⟨I,F,hi,hev,hp,YS,hIr,hro,z,len,hh⟩:=H.ex
 obtain⟨j1,j2,j3,j4⟩:=hJ _ _ _ h0
 obtain⟨hsz,hst,age⟩:=RS hi hp j2 j4 hlen hh H.mp hkey hkA
 have hsA:(gZ es S).size=S.length:=by simp[gZ]
 have hti:a.eval (.tmp ti)=.pointer (some ⟨r,0,none⟩):=by
  have:=hev ti
  rw[j3] at this
  exact(List.cons.inj this.1).1
 have hbr:bm≠r:=fun e=>hIr (e▸YS)
 refine wp_seq ?_
 rcases run_next_at (P:=c.P) w LP r bm clock clock (gZ es S) es clock H.it H.mp (fun x hx=>hst.1 x hx) (Nat.le_refl _) with ⟨hz,hrun⟩|⟨e,hmem,w1,hw1,hrun⟩
 ·rw[←hti] at hrun
  refine AO (b:=false) (by rw[H.sz];exact hn) hne.2.2 rfl hrun ?_
  refine wp_seq (wp_cond_false (gh (by simp[Act.put,H.sz];exact hk)) (wp_exit ?_))
  refine⟨H.df,_,hE _ S st h0 (fun i hi'=>L9 hst.2.1 (fun j hj=>by rw[hsz];exact h2 j hj) hz i (by omega)) h1 h2,by rw[show (Act.put (Act.put a (some tn) _) (some tk) _).defers=a.defers from rfl,H.df];exact oI.none _ _,by simp[Act.put,H.sz],I,F,hi,?_,hp⟩
  exact bw.put (av:=.bad) (bw.put (av:=.bad) hev (by rw[H.sz];exact hn) ⟨_,rfl⟩) (by simp[Act.put,H.sz];exact hk) ⟨_,rfl⟩
 ·obtain⟨i,hi',rfl,hiS⟩:=Ma hmem
  rw[←hti] at hrun
  have aas:w1.heap=w.heap:=by rcases hw1 with rfl|rfl<;>rfl
  have wq:r<w.heap.size:=(Array.getElem?_eq_some_iff.1 H.it).1
  obtain⟨w2,KT⟩:∃w2,w2=setBlock w1 r (.mapIter (some bm) clock ((gZ es S).push es[i].born) clock):=⟨_,rfl⟩
  rw[←KT] at hrun
  have rV:(gZ es S).push es[i].born=gZ es (i::S):=by
   rw[←GZ,Array.getD_eq_getD_getElem?,Array.getElem?_eq_getElem hi',Option.getD_some]
  have h2r:w2.heap[r]? = some (.mapIter (some bm) clock ((gZ es S).push es[i].born) clock):=by
   rw[KT];simp[setBlock,aas,wq]
  have h2o:∀b,b≠r→w2.heap[b]? = w.heap[b]?:=fun b hb=>by
   rw[KT];simp only[setBlock,aas];rw[Array.getElem?_setIfInBounds_ne (fun e=>hb e.symm)]
  have h2s:w2.heap.size=w.heap.size:=by rw[KT];simp[setBlock,aas]
  have agh:w2.os=w.os:=by rw[KT];rcases hw1 with rfl|rfl<;>rfl
  have h2t:w2.tape=w.tape:=by rw[KT];rcases hw1 with rfl|rfl<;>rfl
  have h2p:w2.output=w.output:=by rw[KT];rcases hw1 with rfl|rfl<;>rfl
  obtain⟨hi2,WB⟩:=hi.sL H.lo hro hIr h2o (by omega) agh h2t h2p
  have h2b:w2.heap[bm]? = some (.map es clock):=(h2o bm hbr).trans H.mp
  refine AO (b:=true) (by rw[H.sz];exact hn) hne.2.2 rfl hrun ?_
  refine wp_seq (wp_cond_true (gh (by simp[Act.put,H.sz];exact hk)) (wp_skip ?_))
  refine wp_block (wp_seq (wp_region_list ?_))
  show wpList c.P _ _ (⟨some te,.entry (.tmp ti),Wl,p3,f3,none⟩::sC) _ w2
  unfold wpList
  rw[if_pos (by simp[Region.wanted])]
  refine .inl ?_
  obtain⟨a2,YT⟩:∃a2,a2=((a.put (some tn) (.tuple #[.bool true,es[i].key,es[i].val])).put (some tk) (.bool true)):=⟨_,rfl⟩
  rw[←YT]
  have ad':a2.defers=[]:=by rw[YT];exact H.df
  have aea:a2.tmps.size=c.nt:=by rw[YT];simp[Act.put,H.sz]
  have agj:a2.eval (.tmp ti)=.pointer (some ⟨r,0,none⟩):=by
   rw[←hti,YT]
   show Array.getD _ ti undef=Array.getD _ ti undef
   rw[lS (fun e=>hne.2.1 e.symm),lS (fun e=>hne.1 e.symm)]
  have aeb:=run_entry_at (P:=c.P) w2 r bm clock (gZ es S) es clock es[i] h2r h2b (Array.mem_toList_iff.2 (Array.getElem_mem hi')) hst.2.1
  have h3:(execOp a2.eval ⟨some te,.entry (.tmp ti),Wl,p3,f3,none⟩).run c.P w2=.ok (.value (.tuple #[es[i].key,es[i].val])) w2:=by
   simp only[execOp,agj];exact j8 aeb
  unfold Oper.wp
  rw[h3]
  show wpList c.P _ _ sC (a2.put (some te) _) w2
  obtain⟨hd,nh⟩:=(Bool.and_eq_true _ _).mp hok
  have hd9:dY c.nt sC=true:=by
   simp only[dY,List.all_cons,Bool.and_eq_true] at hd ⊢;exact hd.2
  have yd:F.length=st.X.length:=by rw[←hi.erase];simp
  have agk:bw ((te,.cT (.cons (kA i) (.cons (vA i) .nil)))::(tk,.bad)::(tn,.bad)::st.env) (a2.put (some te) (.tuple #[es[i].key,es[i].val])) w2 I F:=by
   refine bw.put ?_ (by rw[aea];exact he) ?_
   ·rw[YT]
    exact bw.put (av:=.bad) (bw.put (av:=.bad) (fun t=>WB (hev t)) (by rw[H.sz];exact hn) ⟨_,rfl⟩) (by simp[Act.put,H.sz];exact hk) ⟨_,rfl⟩
   ·obtain⟨r1,r2⟩:=age i hi'
    exact⟨[es[i].key,es[i].val],rfl,_,_,rfl,WB r1,_,_,rfl,WB r2,rfl⟩
  have VG:Rel ⟨c.P,c.nt,w2,I,F⟩ ⟨(te,.cT (.cons (kA i) (.cons (vA i) .nil)))::(tk,.bad)::(tn,.bad)::st.env,st.X,[],st.pl⟩ (a2.put (some te) (.tuple #[es[i].key,es[i].val])) w2 :=
   ⟨by rw[show (a2.put (some te) _).defers=a2.defers from rfl,ad'];exact oI.none _ _,by simpa[Act.put] using aea,I,F,hi2.aat c.nt,agk,hp.sL WB⟩
  refine RT (c:=⟨c.P,c.nt,w2,I,F⟩) hτ nh (fun st3 a3 w3 hd3 QI hr3=>?_) sC 1 _ (a2.put (some te) (.tuple #[es[i].key,es[i].val])) w2 hd9 ad' VG (hB _ S i st h0 (by omega) hiS h1 h2 w2 I F yd (fun b hb=>hi2.ic b hb))
  rw[jN] at QI
  refine wp_mono (QI a3 w3 hd3 hr3) fun e4 a4 w4 ⟨hd4,st4,hk4,hr4⟩=>?_
  cases e4 with
  | normal =>
   have aec:VS ⟨c.P,c.nt,w2,I,F⟩ [] (lC c.F0.length st.X.length κ0 (J (.pointer (some ⟨r,0,none⟩)) (i::S))) st4:=hk4
   rw[aar] at aec
   obtain⟨ts,cw,g1,g2,g3⟩:=aec
   obtain⟨_,hs5,I5,F5,i5,e5,q5⟩:=hr4.pick ts (cw:=cw) (by show iF F.length _ _=true;rw[yd];exact g1)
   have S5:=jo.RX (nb:=c.F0.length) i5
   have i6:=(hi2.step S5).iu (κ':=st4.κ) g2
   rw[i5.erase,j1] at i6
   have U':r<w2.heap.size:=by omega
   have zU:bm<w2.heap.size:=(Array.getElem?_eq_some_iff.1 h2b).1
   have L3:bm∉own F:=fun hb=>hi.apart bm hb YS
   have k1:w4.heap[r]? = some (.mapIter (some bm) clock (gZ es (i::S)) clock):=by
    rw[←rV,←h2r];exact i5.frame r U' hro
   refine⟨⟨i::S,_,g3,List.nodup_cons.2 ⟨hiS,h1⟩,fun j hj=>?_,hd4,hs5,H.lo,k1,(i5.frame bm zU L3).trans h2b,I5,F5,i6,e5,q5,i5.ek bm YS,fun hb=>?_,fun hb=>?_,?_⟩,?_⟩
   ·rcases List.mem_cons.1 hj with rfl|hj
    ·omega
    ·exact h2 j hj
   ·rcases i5.gY r hb with h|h|h
    ·exact hIr h
    ·have:w2.heap.size≤r:=h
     omega
    ·exact hro h
   ·exact hro (i5.fresh r hb U')
   ·refine⟨z,len,LY i5 (g2 k q true hk0) hh⟩
   ·have e1:w.heap[r]? = _:=H.it
    simp only[k1,e1]
    have:=bk n (i::S) (List.nodup_cons.2 ⟨hiS,h1⟩) (fun j hj=>by
     rcases List.mem_cons.1 hj with rfl|hj
     ·omega
     ·exact h2 j hj)
    simp only[List.length_cons] at this
    have hsB:(gZ es (i::S)).size=S.length+1:=by simp[gZ]
    omega
  | _=>exact hk4.elim
theorem bw.keep{e:Env}{a:Act}{w:World}{I:Nat→Prop}{F:List G}(he:bw e a w I F)(ts:List Tmp):bw (ts.map fun t=>(t,Go.Vc.look e t)) a w I F:=fun t=>by
 rcases qi e t ts with h'|h'
 ·rw[h'];exact wT
 ·rw[h'];exact he t
def gy (c:Cx) (it:Tmp) (xt:TypeId) (x:Operand) (y:Code) (l:List Code) (K:Exit→St→Prop) (st:St):Prop :=
 ∀a w,a.defers=[]→Rel c st a w→∃o,(Instr.range xt (a.eval x)).run c.P w=.ok (.pointer (some ⟨w.heap.size,0,none⟩)) (w.alloc o) ∧
  y.wp c.P (fun e a w=>G2 e a∧∃st',eN (VS c l K) K e st'∧Rel c st' a w) (a.put (some it) (.pointer (some ⟨w.heap.size,0,none⟩))) (w.alloc o)
@[congr] theorem WC{it:Tmp}{xt:TypeId}{x:Operand}{y:Code}{l:List Code}{st st':St}(h:tick st=st'):gy c it xt x y l K st=gy c it xt x y l K st':=by rw[bl] at h;rw[h]
theorem gy.yes(hτ:bg.Ok c.P τ)(gs:List (Nat×Tmp)){xt:TypeId}{x:Operand}{l:List Code}{st:St}{k:Nat}{q:Path}(hx:st.ev x=.mp k q){e:TypeId}{kd:KK}(hmp:(τ xt).mp=some (e,kd))
  (hi:ti<c.nt) (hn:tn<c.nt) (hk:tk<c.nt) (he:te<c.nt) (hne:ti≠tn∧ti≠tk∧tn≠tk) {n:Nat} {sD:D} {kv:Nat→Value} {kA vA:Nat→AV} (hk0:k<c.F0.length)
  {κ0:List (Nat×Path)} (ts:List Tmp) (J:Value→List Nat→St→Prop) (hs:st.κ=κ0∧(st.X.getD k .nil).at_ q=.map false () sD) (hJ0:∀p,J p [] (St.keep ⟨(ti,.val p)::st.env,st.X,st.κ,st.pl⟩ ts))
  (hJ:∀p S st,J p S st→st.κ=κ0∧st.pl=[]∧Go.Vc.look st.env ti=.val p∧(st.X.getD k .nil).at_ q=.map false () sD) (hlen:sD.len=n)
  (hkey:∀i,i<n→∃v:D,sD.nth i=.agg (.cons (T.gi (kv i)) (.cons v .nil))∧(vA i=.bad∨(ei v false=true∧vA i=AV.pe [] k (q++[.i i,.f 1]) 0 v)))
  (hkA:∀i,i<n→∀h I F,Rl h I F (kA i) true [kv i])
  (hok:kE c.nt (⟨some te,.entry (.tmp ti),Wl,p3,f3,none⟩::sC) gs=true)
  (hB:∀p S i st,J p S st→i<n→i∉S→S.Nodup→(∀j∈S,j<n)→∀w1 I1 F1,F1.length=st.X.length→(∀b,I1 b→b<w1.heap.size) →
   eL ⟨c.P,c.nt,w1,I1,F1⟩ τ gs sC 1 ⟨(te,.cT (.cons (kA i) (.cons (vA i) .nil)))::(tk,.bad)::(tn,.bad)::st.env,st.X,[],st.pl⟩ (VS ⟨c.P,c.nt,w1,I1,F1⟩ [rest] (lC c.F0.length st.X.length κ0 (J p (i::S)))))
  (hE:∀p S st,J p S st→(∀i,i<n→i∈S)→S.Nodup→(∀i∈S,i<n)→VS c l K ⟨(tk,.bad)::(tn,.bad)::st.env,st.X,st.κ,st.pl⟩) :
  gy c ti xt x (.block jb (.loop (.seq (.region i8 [⟨some tn,.next (.tmp ti) false,LP,p1,f1,none⟩,⟨some tk,.extract (.tmp tn) 0,PZ,p2,f2,none⟩].toArray false) (.seq (.cond (.tmp tk) .skip (.exit jb))
   (.block jc (.seq (.region i9 (⟨some te,.entry (.tmp ti),Wl,p3,f3,none⟩::sC).toArray false) rest)))))) l K st:=fun a w hdf hr=>by
 obtain⟨_,hsz,I,F,i1,e1,q1⟩:=id hr
 have oH:=e1.ev x
 rw[hx] at oH
 obtain⟨Md,bm,z,len,hh,vb⟩:=oH
 have vb:=(List.cons.inj vb).1
 obtain⟨es,clock,YS,hown,yU⟩:∃es clock,I bm∧Md=false∧w.heap[bm]? = some (.map es clock):=by
  unfold bM at hh
  cases hf:F[k]? with
  | none=>rw[hf] at hh;simp at hh
  | some f =>
   rw[hf] at hh
   simp only[Option.bind_some] at hh
   have vo:(f.at_ q).erase=.map false () sD:=by
    rw[T.bJ,←hs.2]
    rw[←i1.erase,List.getD_eq_getElem?_getD,List.getElem?_map,hf];rfl
   obtain⟨a0,s0,WA,hs0⟩:∃a0 s0,f.at_ q=.map false a0 s0∧s0.erase=sD:=by
    generalize f.at_ q=fq at vo
    cases fq<;>simp only[T.erase] at vo<;>cases vo
    exact⟨_,_,rfl,rfl⟩
   have hH:=(i1.holds f (List.mem_of_getElem? hf)).at_ q
   rw[WA] at hH hh
   simp only[T.cM,Option.some.injEq,Prod.mk.injEq] at hh
   obtain⟨rfl,rfl,_,_⟩:=hh
   obtain⟨_,_,hIm,es,cl,hr',_,_⟩:=hH
   exact⟨es,cl,hIm rfl,rfl,hr'⟩
 subst hown
 obtain⟨kt,Ck,Cl⟩:=(hτ xt).mp e kd hmp
 obtain⟨o,ho⟩:∃o,o=Obj.mapIter (some bm) clock #[] clock:=⟨_,rfl⟩
 have hrun:(Instr.range xt (a.eval x)).run c.P w=.ok (.pointer (some ⟨w.heap.size,0,none⟩)) (w.alloc o):=by
  rw[vb,ho]
  simp[Instr.range,run_underlying Ck,MapKept.run_getObj_map yU,Result.andThen,go_sem]
 refine⟨o,hrun,wp_block ?_⟩
 have hro:w.heap.size∉own F:=fun h=>by have:=i1.lt _ h;omega
 have hrI:¬I w.heap.size:=fun h=>by have:=i1.ic _ h;omega
 obtain⟨i2,r2⟩:=i1.sL (w':=w.alloc o) (r:=w.heap.size) i1.size hro hrI (fun b hb=>by
  rcases Nat.lt_or_ge b w.heap.size with h|h
  ·exact heap_alloc h
  ·rw[Array.getElem?_eq_none (by rw[World.size_alloc];omega),Array.getElem?_eq_none h]) (by rw[World.size_alloc];omega) rfl rfl rfl
 have agl:bm<w.heap.size:=(Array.getElem?_eq_some_iff.1 yU).1
 refine wp_mono (G3 (K:=fun e st'=>e=.exit jb∧VS c l K st') hτ gs hn hk he hne hk0 hJ hlen hkey hkA hok hB ?_ (hJ0 _) List.nodup_nil (fun j hj=>by cases hj)
  ⟨by rw[show (a.put (some ti) _).defers=a.defers from rfl,hdf],by simpa[Act.put] using hsz,i1.size,by rw[ho];exact World.alloc_heap_new w _,(heap_alloc agl).trans yU,I,F,i2,bw.keep (bw.put (av:=.val (.pointer (some ⟨w.heap.size,0,none⟩))) (fun t=>r2 (e1 t)) (by rw[hsz];exact hi) ⟨rfl,rfl⟩) ts,q1.sL r2,YS,hrI,hro,z,len,hh⟩) ?_
 ·intro p S st' h1 h2 h3 h4
  exact⟨rfl,hE p S st' h1 h2 h3 h4⟩
 ·rintro _ a w ⟨h0,st',⟨rfl,h1⟩,h2⟩
  show Exit.inBlock jb _ (.exit jb) a w
  simp only[Exit.inBlock,if_pos]
  exact⟨h0,st',h1,h2⟩
theorem gy.pick{it:Tmp}{xt:TypeId}{x:Operand}{y:Code}{l:List Code}{st:St}(ts:List Tmp)(cw:List Nat)(h:iF c.F0.length st.X.length cw=true∧gy c it xt x y l K (st.pick ts cw)):gy c it xt x y l K st :=
 fun a w hd hr=>h.2 a w hd (hr.pick ts h.1)
theorem gy.afU(hτ:bg.Ok c.P τ){xt:TypeId}{x:Operand}{l:List Code}{st:St}(hx:st.ev x=.val (.map none)){e:TypeId}{kd:KK}(hmp:(τ xt).mp=some (e,kd)){body:Code}
  (hi:ti<c.nt) (hn:tn<c.nt) (hk:tk<c.nt) (hne:tn≠tk) (hE:VS c l K ⟨(tk,.bad)::(tn,.bad)::(ti,.bad)::st.env,st.X,st.κ,st.pl⟩) :
  gy c ti xt x (.block jb (.loop (.seq (.region i8 [⟨some tn,.next (.tmp ti) false,LP,p1,f1,none⟩,⟨some tk,.extract (.tmp tn) 0,PZ,p2,f2,none⟩].toArray false) (.seq (.cond (.tmp tk) .skip (.exit jb)) body)))) l K st:=fun a w hdf hr=>by
 obtain⟨_,hsz,I,F,i1,e1,q1⟩:=id hr
 have oH:=e1.ev x
 rw[hx] at oH
 have vb:=(List.cons.inj oH.1).1
 obtain⟨kt,Ck,Cl⟩:=(hτ xt).mp e kd hmp
 obtain⟨o,ho⟩:∃o,o=Obj.mapIter none 0 #[] 0:=⟨_,rfl⟩
 have hrun:(Instr.range xt (a.eval x)).run c.P w=.ok (.pointer (some ⟨w.heap.size,0,none⟩)) (w.alloc o):=by
  rw[vb,ho]
  simp[Instr.range,run_underlying Ck,Result.andThen,go_sem]
 refine⟨o,hrun,wp_block ?_⟩
 have hro:w.heap.size∉own F:=fun h=>by have:=i1.lt _ h;omega
 have hrI:¬I w.heap.size:=fun h=>by have:=i1.ic _ h;omega
 obtain⟨i2,r2⟩:=i1.sL (w':=w.alloc o) (r:=w.heap.size) i1.size hro hrI (fun b hb=>by
  rcases Nat.lt_or_ge b w.heap.size with h|h
  ·exact heap_alloc h
  ·rw[Array.getElem?_eq_none (by rw[World.size_alloc];omega),Array.getElem?_eq_none h]) (by rw[World.size_alloc];omega) rfl rfl rfl
 have hnew:(w.alloc o).heap[w.heap.size]? = some o:=World.alloc_heap_new w _
 obtain⟨a1,ha1⟩:∃a1,a1=a.put (some ti) (.pointer (some ⟨w.heap.size,0,none⟩)):=⟨_,rfl⟩
 have hs1:a1.tmps.size=c.nt:=by rw[ha1];simpa[Act.put] using hsz
 have hti:a1.eval (.tmp ti)=.pointer (some ⟨w.heap.size,0,none⟩):=by rw[ha1];exact gh (by rw[hsz];exact hi)
 have Ce:a1.defers=[]:=by rw[ha1];exact hdf
 have he1:bw ((ti,.bad)::st.env) a1 (w.alloc o) I F:=by rw[ha1];exact bw.put (av:=.bad) (fun t=>r2 (e1 t)) (by rw[hsz];exact hi) ⟨_,rfl⟩
 rw[←ha1]
 have aee:(Instr.next (a1.eval (.tmp ti)) false LP).run c.P (w.alloc o)=.ok (.tuple #[.bool false]) (w.alloc o):=by
  rw[hti]
  rw[ho]
  exact run_next_nilMap w LP 0 0 #[]
 refine wp_loop (fun a w'=>a=a1∧w'=w.alloc o) (fun _ _=>0) ⟨rfl,rfl⟩ ?_
 rintro _ _ ⟨e3,e4⟩
 rw[e3,e4]
 refine wp_seq (AO (b:=false) (by rw[hs1];exact hn) hne rfl aee ?_)
 refine wp_seq (wp_cond_false (gh (by simp[Act.put,hs1];exact hk)) (wp_exit ?_))
 simp only[Exit.then,Exit.inBlock,if_true]
 refine⟨Ce,_,hE,by rw[show (Act.put (Act.put a1 (some tn) _) (some tk) _).defers=a1.defers from rfl,Ce];exact oI.none _ _,by simp[Act.put,hs1],I,F,i2,?_,q1.sL r2⟩
 exact bw.put (av:=.bad) (bw.put (av:=.bad) he1 (by rw[hs1];exact hn) ⟨_,rfl⟩) (by simp[Act.put,hs1];exact hk) ⟨_,rfl⟩
end
end Go.Vd

namespace Go.Vd
set_option linter.all false
open Go Go.Vc
section
variable {c:Cx} {τ:bg} {K:Exit→St→Prop} {st:St} {l:List Code} {y:Code} {it:Tmp} {xt ty:TypeId} {x:Operand} {pos:String} {af:Array Edge}
theorem RY{a:Act}{w:World}{Q:Exit→Act→World→Prop}{next:Act→World→Prop}{o:Obj}(h:(Instr.range xt (a.eval x)).run c.P w=.ok (.pointer (some ⟨w.heap.size,0,none⟩)) (w.alloc o))
  (hn:next (a.put (some it) (.pointer (some ⟨w.heap.size,0,none⟩))) (w.alloc o)):Oper.wp c.P ⟨some it,.range xt x,ty,pos,af,none⟩ a w next Q:=by
 unfold Oper.wp
 have h1:(execOp a.eval ⟨some it,.range xt x,ty,pos,af,none⟩).run c.P w=.ok (.value (.pointer (some ⟨w.heap.size,0,none⟩))) (w.alloc o):=by
  simp only[execOp];exact j8 h
 rw[h1]
 exact hn
theorem aci(hτ:bg.Ok c.P τ)(id:Nat){all:List Oper}(pre:List Tmp)(gs:List (Nat×Tmp))(h:eL c τ gs all.dropLast 0 (st.keep pre) (gy c it xt x y l K))
  (hsp:all=all.dropLast++[⟨some it,.range xt x,ty,pos,af,none⟩]) (hd:kE c.nt all gs=true):VS c (.seq (.region id all.toArray false) y::l) K st:=by
 refine VS.keep pre ?_
 rw[jN]
 intro a w hdf hr
 obtain⟨Ce,nh⟩:=(Bool.and_eq_true _ _).mp hd
 have hd2:dY c.nt all.dropLast=true:=by
  rw[hsp,dY,List.all_append,Bool.and_eq_true] at Ce;exact Ce.1
 refine wp_seq (wp_region_list ?_)
 have:=vp (c:=c) (all:=all) (tail:=[⟨some it,.range xt x,ty,pos,af,none⟩]) (Q:=Exit.then (y.wp c.P fun e a w=>G2 e a∧∃st',eN (VS c l K) K e st'∧Rel c st' a w) fun e a w=>G2 e a∧∃st',eN (VS c l K) K e st'∧Rel c st' a w) hτ nh
  (fun st a w h0 h1 h2=>by
   unfold wpList
   rw[if_pos (by simp[Region.wanted])]
   obtain⟨o,k1,k2⟩:=h1 a w h0 h2
   exact .inl (RY k1 k2)) all.dropLast 0 _ a w hd2 hdf hr h
 rw[←hsp] at this
 simpa using this
def gB (iR:Nat):bY→Bool
 | .alt i .done .nil=>Nat.beq i iR
 | _=>false
def cut (iR:Nat):bY→bY
 | .take i p=>.take i (cut iR p)
 | .fork l=>bif gB iR l then .done else .fork (cut iR l)
 | .alt i p r=>.alt i (cut iR p) (cut iR r)
 | p=>p
def ends (iR:Nat):bY→Bool
 | .done=>false
 | .nil=>true
 | .take _ p=>ends iR p&&p.gD
 | .fork l=>ends iR l
 | .alt i p r=>gB iR (.alt i p r)||(ends iR p&&ends iR r&&p.gD && !gB iR r)
theorem zu{iR:Nat}{p:bY}(h:gB iR p=true):p=.alt iR .done .nil:=by
 unfold gB at h
 split at h
 ·rw[Nat.eq_of_beq_eq_true h]
 ·cases h
def YU (c:Cx) (τ:bg) (gs:List (Nat×Tmp)) (ops:List Oper) (EM iR:Nat) (MF:St→Prop) (N:Act→World→Prop) (p:bY) (a:Act) (w:World):Prop :=
 match p with
 | .done=>N a w
 | .nil=>True
 | p=>ends iR p=true∧a.defers=[]∧if gB iR p then ∃st,MF st∧Rel c st a w else ∃st,cg c τ gs ops (lH EM (cut iR p)) st MF∧Rel c st a w
theorem YU.of{gs:List (Nat×Tmp)}{ops:List Oper}{EM iR:Nat}{MF:St→Prop}{N:Act→World→Prop}{p:bY}{a:Act}{w:World}{st:St}(h1:ends iR p=true)(h2:a.defers=[])(h3:gB iR p=false)(h4:cg c τ gs ops (lH EM (cut iR p)) st MF)(h5:Rel c st a w) :
  YU c τ gs ops EM iR MF N p a w:=by
 cases p with
 | done=>cases h1
 | nil=>trivial
 | _=>exact⟨h1,h2,by rw[if_neg (by rw[h3];simp)];exact⟨st,h4,h5⟩⟩
theorem LO(hτ:bg.Ok c.P τ)(hm:c.P.follows .mixedOrders=true)(id:Nat){all:List Oper}(EM iR:Nat)(pre:List Tmp)(gs:List (Nat×Tmp))(T:List Rw)(p:bY)(o:OP)
  (h:cg c τ gs all o (st.keep pre) (gy c it xt x y l K)) (hR:all[iR]? = some ⟨some it,.range xt x,ty,pos,af,none⟩) (hT:all.map (rowOf all.toArray)=T) (hok:gm EM c.nt all gs T p=true) (he:(ends iR p && !gB iR p)=true) (ho:lH EM (cut iR p)=o) :
  VS c (.seq (.region id all.toArray true) y::l) K st:=by
 subst ho
 refine VS.keep pre ?_
 rw[jN]
 intro a w hdf hr
 simp only[gm,Bool.and_eq_true] at hok
 obtain⟨⟨⟨⟨⟨h1,h2⟩,h3⟩,h4⟩,h5⟩,h6⟩:=hok
 simp only[Bool.and_eq_true,Bool.not_eq_true'] at he
 have hr':Rel c (st.keep pre) a { w with drawn:=w.drawn+1 }:=hr.quiet rfl rfl rfl rfl
 refine wp_seq ?_
 have hall:=(DX (P:=c.P) (ops:=all) (Q:=fun e a w=>e=.normal∧y.wp c.P (fun e a w=>G2 e a∧∃st',eN (VS c l K) K e st'∧Rel c st' a w) a w) (EM:=EM)
  (PW:=YU c τ gs all EM iR (gy c it xt x y l K) (y.wp c.P fun e a w=>G2 e a∧∃st',eN (VS c l K) K e st'∧Rel c st' a w)) h3 (fun a w h=>⟨rfl,h⟩)
  (fun i p o a w ho h5 ⟨e1,g0,g1⟩=>by
   simp only[gB,Bool.false_eq_true,if_false] at g1
   obtain⟨st,g1,g2⟩:=g1
   obtain⟨hp,hpm⟩:=(Bool.and_eq_true _ _).mp (show (ends iR p&&p.gD)=true from e1)
   have hl:gB iR p=false:=by cases p<;>first|rfl|cases hpm
   obtain⟨v,st',k1,k2,k3⟩:=DW hτ h2 h1 ho h5 g2 (lU g1)
   exact⟨v,k1,YU.of hp (by rw[←g0];cases o.dst<;>rfl) hl k2 k3⟩)
  (fun l a w ⟨e1,g0,g1⟩=>by
   simp only[gB,Bool.false_eq_true,if_false] at g1
   obtain⟨st,g1,g2⟩:=g1
   have hp:ends iR l=true:=e1
   cases hl:gB iR l with
   | false =>
    simp only[cut,hl,cond_false] at g1
    exact YU.of hp g0 hl g1 g2
   | true =>
    simp only[cut,hl,cond_true] at g1
    rw[zu hl]
    refine⟨by simp[ends,gB],g0,?_⟩
    rw[if_pos (by simp[gB])]
    exact⟨st,g1,g2⟩)
  (fun i p r a w ⟨e1,g0,g1⟩=>by
   cases hl:gB iR (.alt i p r) with
   | true =>
    rw[hl,if_pos rfl] at g1
    obtain⟨st,g1,g2⟩:=g1
    have:=zu hl
    injection this with q1 q2 q3
    subst q1 q2 q3
    refine⟨?_,trivial⟩
    obtain⟨ob,k1,k2⟩:=g1 a w g0 g2
    unfold wpOp
    rw[show all.toArray[i]? = some _ by simpa using hR]
    simp only
    rw[if_pos (by simp[Region.wanted])]
    exact .inl (RY k1 ⟨fun _ b hb=>heap_alloc hb,k2⟩)
   | false =>
    rw[hl,if_neg (by simp)] at g1
    obtain⟨st,g1,g2⟩:=g1
    simp only[ends,hl,Bool.false_or,Bool.and_eq_true] at e1
    obtain⟨⟨⟨e1,e2⟩,e3⟩,e4⟩:=e1
    obtain⟨k1,k2,k3⟩:=tZ (p:=cut iR p) (r:=cut iR r) g1
    have hlp:gB iR p=false:=by cases p<;>first|rfl|cases e3
    refine⟨wpOp_mono (fun a' w' ⟨m1,m2,st',m3,m4⟩=>⟨m1,YU.of e1 m2 hlp m3 m4⟩) (DV hτ h2 h1 g0 g2 k1 k2),?_⟩
    exact YU.of e2 g0 (by simpa using e4) k3 g2)
  (fun _ _ _ _ _ h=>by cases h.1) p).1
  (Array.replicate all.length false) all.length a _ h4 (Nat.le_of_ble_eq_true h5) (sK (AL EM hT) p _ 0 ⟨by simp,fun j=>by rw[jG];simp[Array.getElem?_replicate];split<;>rfl⟩ (fun i hi=>by cases p<;>simp[bY.gD,bY.alts] at hi h4) h6)
  (YU.of he.1 hdf he.2 h hr')
 have GW:(Code.region id all.toArray true).wp c.P (fun e a w=>e=.normal∧y.wp c.P (fun e a w=>G2 e a∧∃st',eN (VS c l K) K e st'∧Rel c st' a w) a w) a w:=wp_region_any hm (by simpa using nU _ _ _ _ hall)
 refine wp_mono GW fun e a w hq=>?_
 obtain⟨rfl,hq⟩:=hq
 exact hq
end
end Go.Vd

namespace Go.Vd
set_option linter.all false
open Go Go.Vc Go.Proofs Go.Proofs.YtbhigdljojlhnaaGreat
theorem fb{f:FuncId}{fn:Func}{body:Code}{Y:List D}{args:AV}{R:AV→List D→List (Nat×Path)→Prop}(hf:Tryz.prog.funcs[f]? = some fn){nt:Nat}(hnt:fn.ntmps=nt)(rs:List ResultVar){st:St}
  (h:∀w0 I0 F0,F0.length=Y.length→VS ⟨Tryz.prog,nt,w0,I0,F0⟩ [body] (ak Y.length cn rs R) st)
  (hb:fn.body=some body:=by rfl) (hname:(fn.name == "runtime.NumGoroutine")=false:=by kernel_rfl) (wq:fn.results.toList=rs:=by kernel_rfl)
  (hl:args.gT=true:=by rfl) (hlen:args.len≤nt:=by simp[AV.len]) (hst:⟨fG 0 args,Y,[],[]⟩=st:=by simp only[fG];exact rfl):ai Tryz.prog f Y args R :=
 ai.Dn iA hf hb hname hnt wq hl hlen hst fun w0 I0 F0 hF _=>h w0 I0 F0 hF
section
variable {nt:Nat} {w0:World} {I0:Nat→Prop} {F0:List G} {l:List Code} {K:Exit→St→Prop} {st:St} {y:Code} {it:Tmp} {xt ty:TypeId} {x:Operand} {pos:String} {af:Array Edge}
theorem rg(id:Nat){ops:List Oper}(pre post:List Tmp)(gs:List (Nat×Tmp))(h:eL ⟨Tryz.prog,nt,w0,I0,F0⟩ cn gs ops 0 (st.keep pre) (uX ⟨Tryz.prog,nt,w0,I0,F0⟩ l K post))
  (hd:kE nt ops gs=true:=by kernel_rfl):VS ⟨Tryz.prog,nt,w0,I0,F0⟩ (.region id ops.toArray false::l) K st:=VS.rg iA id pre post gs h hd
theorem dr(id:Nat){ops:List Oper}(EM:Nat)(pre post:List Tmp)(gs:List (Nat×Tmp))(T:List Rw)(p:bY)(o:OP)
  (h:cg ⟨Tryz.prog,nt,w0,I0,F0⟩ cn gs ops o (st.keep pre) (uX ⟨Tryz.prog,nt,w0,I0,F0⟩ l K post))
  (hT:ops.map (rowOf ops.toArray)=T:=by kernel_rfl) (hok:gm EM nt ops gs T p=true:=by kernel_rfl) (ho:lH EM p=o:=by kernel_rfl):VS ⟨Tryz.prog,nt,w0,I0,F0⟩ (.region id ops.toArray true::l) K st:=VS.dr iA vk id EM pre post gs T p o h hT hok ho
theorem rgR(id:Nat){all:List Oper}(pre:List Tmp)(gs:List (Nat×Tmp))(h:eL ⟨Tryz.prog,nt,w0,I0,F0⟩ cn gs all.dropLast 0 (st.keep pre) (gy ⟨Tryz.prog,nt,w0,I0,F0⟩ it xt x y l K))
  (hsp:all=all.dropLast++[⟨some it,.range xt x,ty,pos,af,none⟩]:=by rfl) (hd:kE nt all gs=true:=by kernel_rfl):VS ⟨Tryz.prog,nt,w0,I0,F0⟩ (.seq (.region id all.toArray false) y::l) K st:=aci iA id pre gs h hsp hd
theorem drR(id:Nat){all:List Oper}(EM iR:Nat)(pre:List Tmp)(gs:List (Nat×Tmp))(T:List Rw)(p:bY)(o:OP)
  (h:cg ⟨Tryz.prog,nt,w0,I0,F0⟩ cn gs all o (st.keep pre) (gy ⟨Tryz.prog,nt,w0,I0,F0⟩ it xt x y l K)) (hR:all[iR]? = some ⟨some it,.range xt x,ty,pos,af,none⟩:=by rfl)
  (hT:all.map (rowOf all.toArray)=T:=by kernel_rfl) (hok:gm EM nt all gs T p=true:=by kernel_rfl) (he:(ends iR p && !gB iR p)=true:=by kernel_rfl) (ho:lH EM (cut iR p)=o:=by kernel_rfl) :
  VS ⟨Tryz.prog,nt,w0,I0,F0⟩ (.seq (.region id all.toArray true) y::l) K st:=LO iA vk id EM iR pre gs T p o h hR hT hok he ho
variable {jb i8 i9 jc:Nat} {tn tk te ti:Tmp} {LP PZ Wl:TypeId} {p1 p2 p3:String} {f1 f2 f3:Array Edge} {sC:List Oper} {rest:Code}
theorem mfN(hx:st.ev x=.val (.map none)){body:Code}{e:TypeId}{kd:KK}(hE:VS ⟨Tryz.prog,nt,w0,I0,F0⟩ l K ⟨(tk,.bad)::(tn,.bad)::(ti,.bad)::st.env,st.X,st.κ,st.pl⟩)(hmp:(cn xt).mp=some (e,kd):=by rfl)
  (hi:ti<nt:=by decide) (hn:tn<nt:=by decide) (hk:tk<nt:=by decide) (hne:tn≠tk:=by decide) :
  gy ⟨Tryz.prog,nt,w0,I0,F0⟩ ti xt x (.block jb (.loop (.seq (.region i8 [⟨some tn,.next (.tmp ti) false,LP,p1,f1,none⟩,⟨some tk,.extract (.tmp tn) 0,PZ,p2,f2,none⟩].toArray false) (.seq (.cond (.tmp tk) .skip (.exit jb)) body)))) l K st :=
 gy.afU iA hx hmp hi hn hk hne hE
theorem mfY{e:TypeId}{kd:KK}(gs:List (Nat×Tmp)){k:Nat}{q:Path}(hx:st.ev x=.mp k q){n:Nat}{sD:D}{kv:Nat→Value}{kA vA:Nat→AV}
  {κ0:List (Nat×Path)} (ts:List Tmp) (J:Value→List Nat→St→Prop) (hs:st.κ=κ0∧(st.X.getD k .nil).at_ q=.map false () sD) (hJ0:∀p,J p [] (St.keep ⟨(ti,.val p)::st.env,st.X,st.κ,st.pl⟩ ts))
  (hJ:∀p S st,J p S st→st.κ=κ0∧st.pl=[]∧Go.Vc.look st.env ti=.val p∧(st.X.getD k .nil).at_ q=.map false () sD) (hlen:sD.len=n)
  (hkey:∀i,i<n→∃v:D,sD.nth i=.agg (.cons (T.gi (kv i)) (.cons v .nil))∧(vA i=.bad∨(ei v false=true∧vA i=AV.pe [] k (q++[.i i,.f 1]) 0 v)))
  (hkA:∀i,i<n→∀h I F,Rl h I F (kA i) true [kv i])
  (hB:∀p S i st,J p S st→i<n→i∉S→S.Nodup→(∀j∈S,j<n)→∀w1 I1 F1,F1.length=st.X.length→(∀b,I1 b→b<w1.heap.size) →
   eL ⟨Tryz.prog,nt,w1,I1,F1⟩ cn gs sC 1 ⟨(te,.cT (.cons (kA i) (.cons (vA i) .nil)))::(tk,.bad)::(tn,.bad)::st.env,st.X,[],st.pl⟩ (VS ⟨Tryz.prog,nt,w1,I1,F1⟩ [rest] (lC F0.length st.X.length κ0 (J p (i::S)))))
  (hE:∀p S st,J p S st→(∀i,i<n→i∈S)→S.Nodup→(∀i∈S,i<n)→VS ⟨Tryz.prog,nt,w0,I0,F0⟩ l K ⟨(tk,.bad)::(tn,.bad)::st.env,st.X,st.κ,st.pl⟩)
  (hk0:k<F0.length) (hok:kE nt (⟨some te,.entry (.tmp ti),Wl,p3,f3,none⟩::sC) gs=true:=by kernel_rfl) (hmp:(cn xt).mp=some (e,kd):=by rfl)
  (hi:ti<nt:=by decide) (hn:tn<nt:=by decide) (hk:tk<nt:=by decide) (he:te<nt:=by decide) (hne:ti≠tn∧ti≠tk∧tn≠tk:=by decide) :
  gy ⟨Tryz.prog,nt,w0,I0,F0⟩ ti xt x (.block jb (.loop (.seq (.region i8 [⟨some tn,.next (.tmp ti) false,LP,p1,f1,none⟩,⟨some tk,.extract (.tmp tn) 0,PZ,p2,f2,none⟩].toArray false) (.seq (.cond (.tmp tk) .skip (.exit jb))
   (.block jc (.seq (.region i9 (⟨some te,.entry (.tmp ti),Wl,p3,f3,none⟩::sC).toArray false) rest)))))) l K st :=
 gy.yes iA gs hx hmp hi hn hk he hne hk0 ts J hs hJ0 hJ hlen hkey hkA hok hB hE
end
end Go.Vd

namespace Go.Vd
set_option linter.all false
open Go.Vc Go.Proofs Go.Proofs.YtbhigdljojlhnaaGreat
set_option maxRecDepth 100000
set_option maxHeartbeats 4000000
attribute [local irreducible] bx jv
theorem jA(o:Bool){s:Mt}(h:aR s)(t:Nat)(ht:t<s.L.length):ai Tryz.prog 81 [au o s] (.cons (.ptr 0 [.d]) (.cons (ag t) (.cons (.bE 1) .nil)))
  fun av X κ=>av=.sub 1 [] 0 (placesOf s t []).length false∧X=[au o s,bB (placesOf s t [])]∧κ=[]:=ai.fy (tI o h t ht [] true (by simp))
theorem adk{s:Mt}(h:aR s)(hf:Fits s)(t:Nat)(ht:t<s.L.length)(v:Int)(hv:fZ v=true):ai Tryz.prog 39 [au false s] (.cons (.ptr 0 [.d]) (.cons (ag t) (.cons (ag v) .nil)))
  fun av X κ=>av=fX (.sub 1 [] 0 (CZ s t v).length false) 0∧X=[au false s,aB (CZ s t v)]∧κ=[]:=by
 have PX:val s.L t=true:=by simp[val,ht]
 obtain⟨uA,tJ⟩:0≤v∧v≤2:=by simpa[fZ] using hv
 have QI:¬v<0:=by omega
 have hv4:¬2<v:=by omega
 have oE:(placesOf s t []).length≤1000:=by
  have W:=h.ok.wf
  have:=W.base.elim fun _ B=>dW B ht (W.ord ht)
  have e:placesOf s t []=(aP s.L t).map fun x=>(x,-1):=by
   unfold placesOf
   generalize aP s.L t=l
   induction l with
   | nil=>rfl
   | cons a l ih=>rw[List.flatMap_cons,ih];rfl
  rw[e,List.length_map];exact this
 have afO:CZ s t v=mq ((nJ s (placesOf s t [])).filter (gv s t v)):=rfl
 refine fb Tryz.func39 Tryz.ntmps39 [.tmp 6,.tmp 7] fun w0 I0 F0 hF=>?_
 repeat first|refine n1 ?_|(first|refine rg 0 [0,1,2] [0,1,2] [] ?_|refine rg 1 [0,1,2] [0,1,2,25] [(4,18),(8,22)] ?_);simp[hF]
 refine(mG false h t).go [(0,[])] (by simp[hF,au,PX,QI,hv4]) ?_;rintro av X κ ⟨rfl,rfl,rfl⟩;simp[hF,au,PX,QI,hv4]
 repeat first|refine n1 ?_|refine n2 ?_|(first|refine rg 3 [0,1,2] [0,1,2,8] [] ?_|refine rg 4 [0,1,2,8] [0,1,2,8,29,30,31] [] ?_|refine nc ?_);simp[hF]
 refine(jA false h t ht).go [(0,[])] (by simp[hF,au,bB]) ?_;rintro av X κ ⟨rfl,rfl,rfl⟩;simp[hF,au,bB]
 repeat refine n3 ?_
 generalize placesOf s t []=aC at *
 refine VS.rounds (fun m st=>∃(i:Nat) (acc:List ByteArray),i+m=aC.length∧acc.Nodup∧(∀n,n∈acc↔n∈(nJ s (aC.take i)).filter (gv s t v)) ∧
  st=⟨[(0,.ptr 0 [.d]),(1,ag t),(2,ag v),(8,.mp 1 []),(29,.sub 2 [] 0 aC.length false),(30,ag aC.length),(31,ag i)],[au false s,.map true () (Lc acc),bB aC],[],[]⟩) ⟨aC.length,0,[],by omega,List.nodup_nil,by simp[nJ],by simp[au,bB]⟩ ?_
 rintro m st ⟨i,acc,hi,hnd,hmem,rfl⟩
 repeat first|refine n1 ?_|(first|refine rg 5 [0,1,2,8,29,30,31] [0,1,2,8,29,30,31,32] [] ?_|refine nc ?_);simp[hF,bB]
 refine⟨fun hlt=>?_,fun hge=>?_⟩
 ·have hi':i<aC.length:=by omega
  have hn:=Af hi'
  have dQ:∀n,n∈(nJ s (aC.take (i+1))).filter (gv s t v)↔n∈(nJ s (aC.take i)).filter (gv s t v)∨(n∈(Ag s aC[i]).map (·.1)∧gv s t v n=true):=fun n=>by
   rw[List.take_succ_eq_append_getElem hi',nJ,List.flatMap_append,List.filter_append,List.mem_append]
   simp[nJ,List.mem_filter]
  generalize aC[i]=k at *
  obtain⟨a,b⟩:=k
  generalize hT:Code.seq (Code.region 7 _ _) _=T7
  repeat first|refine n1 ?_|refine n2 ?_|refine n3 ?_|refine rg 6 [0,1,2,8,29,30,31] [0,1,2,8,10,29,30,31] [] ?_;simp[hF,hn,hi']
  subst hT
  have hw:IntKind.i64.wrap ((i:Int)+1)=((i+1:Nat):Int):=by rw[IntWalk.i64_in _ (by omega)];rfl
  have hfind:=jy false s.aT a b
  have rY:=o4 false s.aT a b
  refine drR 7 0 6 [0,1,2,8,10,29,30,31] [] [⟨0,1,34359738368,5⟩,⟨1,34359738368,68719476736,5⟩,⟨2,68719476736,137438953472,5⟩,⟨4,137438953472,274877906944,6⟩,⟨0,1024,549755813888,6⟩,⟨24,824633720832,1099511627776,4⟩,⟨32,1099511627776,2199023255552,4⟩] (.take 0 (.take 1 (.take 2 (.take 3 (.take 4 (.fork (.alt 5 (.fork (.alt 6 (.done) (.nil))) (.nil)))))))) (.run [0,1,2,3,4,5] .done) ?_
  simp only[nD]
  cases hg:bF s.aT (a,b) with
  | none =>
   rw[hg] at hfind
   simp only[Option.map_none] at hfind
   simp[au,hfind]
   refine mfN (by simp) ?_
   have mL:Ag s (a,b)=[]:=by simp[Ag,hg]
   rw[mL] at dQ
   repeat first|refine n4 ?_|refine n5 ?_|refine n6 ?_|refine rg 13 [0,1,2,8,29,30,31] [0,1,2,8,29,30,31] [] ?_;simp[hF,hw]
   refine aO.of [0,1,2,8,29,30,31] [0,1,2] (m-1) (by omega) (by simp[hF]) ?_
   exact⟨i+1,acc,by omega,hnd,fun n=>by rw[hmem,dQ];simp,by simp[au,bB]⟩
  | some tb =>
   rw[hg] at hfind
   simp only[Option.map_some] at hfind
   obtain⟨rQ,hat⟩:=mo hg
   have ij:=jz false ⟨rQ,hat⟩
   simp[au,hfind,rY,ij,rQ]
   refine gy.pick [0,1,2,8,29,30,31,40] [0,1,2] ?_
   simp[hF]
   have mL:Ag s (a,b)=tb:=by simp[Ag,hg]
   rw[mL] at dQ
   refine mfY (k:=0) (q:=[.d,.f 1,.i (eB s.aT (a,b)),.f 1]) (n:=tb.length) (sD:=uV tb) (kv:=fun i=>.string (Ld tb i)) (kA:=fun i=>.val (.string (Ld tb i))) (vA:=fun _=>.bad) (κ0:=[]) [] (by simp)
    [0,1,2,8,29,30,31,41] (fun p S st=>∃acc':List ByteArray,acc'.Nodup∧(∀n,n∈acc'↔n∈acc∨∃j∈S,n=Ld tb j∧gv s t v n=true) ∧
     st=⟨[(0,.ptr 0 [.d]),(1,ag t),(2,ag v),(8,.mp 1 []),(29,.sub 2 [] 0 aC.length false),(30,ag aC.length),(31,ag i),(41,.val p)],[au false s,.map true () (Lc acc'),bB aC],[],[]⟩)
    (by simp[ij,rQ]) ?_ ?_ (by simp) ?_ ?_ ?_ ?_ (by simp[hF])
   ·intro p
    refine⟨acc,hnd,fun n=>by simp,by simp[St.keep,au,bB]⟩
   ·rintro p S st ⟨acc',h1,h2,rfl⟩
    simp[au,ij,rQ]
   ·intro j hj
    exact⟨aK tb[j].2,by rw[VT hj,Gj hj];rfl,.inl rfl⟩
   ·intro j hj h I F
    exact⟨rfl,rfl⟩
   ·rintro p S j st ⟨acc',h1,h2,rfl⟩ hj hjS hS1 hS2 w1 I1 F1 Le hI1
    have Le:F1.length=3:=Le
    simp
    have vW:=pZ false h t ht (Ld tb j)
    have hgd:gv s t v (Ld tb j)=((aJ s t (Ld tb j) []).2&&decide ((aJ s t (Ld tb j) []).1.e.Ch=v)):=rfl
    have hput:=VU acc' (Ld tb j)
    have hstep:∀mF:List ByteArray,(∀n,n∈mF↔n∈acc'∨(n=Ld tb j∧gv s t v n=true))→∀n,n∈mF↔n∈acc∨∃j'∈j::S,n=Ld tb j'∧gv s t v n=true:=fun mF h3 n=>by
     rw[h3,h2]
     constructor
     ·rintro((h4|⟨j',h5,h6⟩)|h4)
      ·exact .inl h4
      ·exact .inr ⟨j',List.mem_cons_of_mem _ h5,h6⟩
      ·exact .inr ⟨j,List.mem_cons_self,h4⟩
     ·rintro(h4|⟨j',h5,h6⟩)
      ·exact .inl (.inl h4)
      ·rcases List.mem_cons.1 h5 with rfl|h5
       ·exact .inr h6
       ·exact .inl (.inr ⟨j',h5,h6⟩)
    generalize Ld tb j=nm at *
    generalize aJ s t nm []=fo at *
    obtain⟨⟨fe,fth,fmd⟩,fb⟩:=fo
    repeat first|refine n1 ?_|refine rg 10 [0,1,2,8,11,29,30,31,41] [0,1,2,8,11,12,13,29,30,31,41] [] ?_;simp[hF]
    refine(vW).go [(0,[])] (by simp[hF,au,kM]) ?_;rintro av X κ ⟨rfl,rfl,rfl⟩;simp[hF,au,kM]
    cases fb with
    | false =>
     repeat first|refine n1 ?_|refine n2 ?_|refine n4 ?_|(first|refine rg 11 [0,1,2,8,11,12,13,29,30,31,41] [0,1,2,8,11,29,30,31,41,60] [(1,54)] ?_|refine nc ?_);simp[hF,bR,aK]
     have nE:gv s t v nm=false:=by rw[hgd];rfl
     refine lC.of [0,1,2,8,29,30,31,41] [0,1,2] ⟨by simp[Le],⟨acc',h1,hstep acc' (fun n=>⟨.inl,fun h=>h.elim id fun ⟨e,h⟩=>absurd h (by rw[e,nE];simp)⟩),by simp[au,bB]⟩⟩
    | true =>
     by_cases uW:fe.Ch=v
     ·have nE:gv s t v nm=true:=by rw[hgd];simp[uW]
      repeat first|refine n1 ?_|refine n4 ?_|(first|refine rg 11 [0,1,2,8,11,12,13,29,30,31,41] [0,1,2,8,11,29,30,31,41,60] [(1,54)] ?_|refine rg 12 [0,1,2,8,11,29,30,31,41] [0,1,2,8,29,30,31,41] [] ?_|refine nc ?_);simp[hF,bR,aK,uW,hput,Le]
      refine lC.of [0,1,2,8,29,30,31,41] [0,1,2] ⟨⟨by simp[Le],QJ (by rw[hF];exact Nat.le_refl 1)⟩,⟨C0 acc' nm,Gk h1,hstep _ (fun n=>by rw[QK];exact or_congr Iff.rfl ⟨fun e=>⟨e,by rw[e];exact nE⟩,fun h=>h.1⟩),by simp[au,bB]⟩⟩
     ·have nE:gv s t v nm=false:=by rw[hgd];simp[uW]
      repeat first|refine n1 ?_|refine n2 ?_|refine n4 ?_|(first|refine rg 11 [0,1,2,8,11,12,13,29,30,31,41] [0,1,2,8,11,29,30,31,41,60] [(1,54)] ?_|refine nc ?_);simp[hF,bR,aK,uW,Le]
      refine lC.of [0,1,2,8,29,30,31,41] [0,1,2] ⟨by simp[Le,hF,dead],⟨acc',h1,hstep acc' (fun n=>⟨.inl,fun h=>h.elim id fun ⟨e,h⟩=>absurd h (by rw[e,nE];simp)⟩),by simp[au,bB]⟩⟩
   ·rintro p S st ⟨acc',h1,h2,rfl⟩ hall hS1 hS2
    have hend:∀n,n∈acc'↔n∈(nJ s (aC.take (i+1))).filter (gv s t v):=fun n=>by
     rw[h2,dQ,hmem]
     refine or_congr Iff.rfl ⟨?_,?_⟩
     ·rintro⟨j,hj,rfl,h3⟩
      have hjl:=hS2 j hj
      exact⟨List.mem_map.2 ⟨tb[j],List.getElem_mem hjl,(Gj hjl).symm⟩,h3⟩
     ·rintro⟨h3,h4⟩
      obtain⟨e,he,rfl⟩:=List.mem_map.1 h3
      obtain⟨j,hj,rfl⟩:=List.mem_iff_getElem.1 he
      exact⟨j,hall j hj,(Gj hj).symm,h4⟩
    simp only[]
    repeat first|refine n4 ?_|refine n5 ?_|refine n6 ?_|refine rg 13 [0,1,2,8,29,30,31] [0,1,2,8,29,30,31] [] ?_;simp[hF,hw]
    refine aO.of [0,1,2,8,29,30,31] [0,1,2] (m-1) (by omega) (by simp[hF]) ?_
    exact⟨i+1,acc',by omega,h1,hend,by simp[au,bB]⟩
 ·obtain rfl:i=aC.length:=by omega
  rw[List.take_length] at hmem
  have hk:acc.mergeSort Go.Vc.leB=CZ s t v:=by
   rw[afO,ZK,Gl hnd]
   exact se (kT _) (kT _) fun x=>by rw[kU,kU,hmem]
  have hin:∀n∈acc,∃k tb,(k,tb)∈s.aT∧∃e∈tb,e.1=n:=fun n hn=>by
   have h1:=(List.mem_filter.1 ((hmem n).1 hn)).1
   obtain⟨k,_,h2⟩:=List.mem_flatMap.1 h1
   obtain⟨e,h3,h4⟩:=List.mem_map.1 h2
   unfold Ag at h3
   cases hg:bF s.aT k with
   | none=>rw[hg] at h3;cases h3
   | some tb=>rw[hg] at h3;exact⟨k,tb,fY hg,e,h3,h4⟩
  have hlen:acc.length≤1000000:=by
   have:=tK (m:=(s.aT.flatMap (·.2)).map (·.1)) hnd fun n hn=>by
    obtain⟨k,tb,h1,e,h2,h3⟩:=hin n hn
    exact List.mem_map.2 ⟨e,List.mem_flatMap.2 ⟨(k,tb),h1,h2⟩,h3⟩
   rw[List.length_map] at this
   exact Nat.le_trans this hf.1
  have hlk:acc.length=(CZ s t v).length:=by rw[←hk,List.length_mergeSort]
  repeat first|refine n1 ?_|refine n7 ?_|refine rg 14 [8] [6,7] [] ?_;simp[hF]
  refine(QD true (Lc acc)).goQ [(1,[])] (by simp[hF]) (by rintro av X κ pl ⟨rfl,rfl,rfl,rfl⟩ e he;simp at he;subst he;simp) ?_;rintro av X κ pl ⟨rfl,rfl,rfl,rfl⟩;simp[hF,St.cH,VV]
  repeat refine n1 ?_
  refine(Gf true (Lc acc) acc (vX _) (fun n hn=>by obtain⟨k,tb,h1,e,h2,rfl⟩:=hin n hn;exact CY (hf.2 k tb h1 e h2)) hlen).goP [(1,[]),(3,[])] (by simp[hF,uB,hk,hlk]) ?_;rintro av X κ ⟨rfl,rfl,rfl⟩;simp[hF,hk,hlk]
  repeat refine n1 ?_
  (try refine nr ?_);(repeat first|refine aF ?_|refine aG ?_);refine ak.o [6,7] [0,4] [] ?_;simp[hF,an,aa,ah,au,aB]
theorem ZL{s:Mt}(h:aR s)(t:Int)(ht:val s.L t=false)(v:Int):ai Tryz.prog 39 [au false s] (.cons (.ptr 0 [.d]) (.cons (ag t) (.cons (ag v) .nil)))
  fun av X κ=>av=fX (.sub 1 [] 0 0 false) 1∧X=[au false s,aB []]∧κ=[]:=by
 refine fb Tryz.func39 Tryz.ntmps39 [.tmp 6,.tmp 7] fun w0 I0 F0 hF=>?_
 repeat first|refine n1 ?_|(first|refine rg 0 [0,1,2] [0,1,2] [] ?_|refine rg 1 [0,1,2] [0,1,2,25] [(4,18),(8,22)] ?_);simp[hF]
 refine(mG false h t).go [(0,[])] (by simp[hF,au,ht]) ?_;rintro av X κ ⟨rfl,rfl,rfl⟩;simp[hF,au,ht]
 repeat first|refine n1 ?_|(first|refine rg 2 [] [6,7] [] ?_|refine nc ?_);simp[hF]
 refine VS.eT 6 1 (by simp) ?_
 (try refine nr ?_);(repeat first|refine aF ?_|refine aG ?_);refine ak.o [6,7] [0,1] [] ?_;simp[hF,an,aa,ah,au,aB,strs]
theorem ZM{s:Mt}(h:aR s)(hf:Fits s)(t:Int)(v:Int)(hv:fZ v=true):ai Tryz.prog 39 [au false s] (.cons (.ptr 0 [.d]) (.cons (ag t) (.cons (ag v) .nil)))
  fun av X κ=>av=fX (.sub 1 [] 0 (AllOf s t v).1.length false) (AllOf s t v).2∧X=[au false s,aB (AllOf s t v).1]∧κ=[]:=by
 cases ht:val s.L t with
 | false =>
  have e:AllOf s t v=([],1):=by simp[AllOf,ht]
  rw[e]
  exact ZL h t ht v
 | true =>
  obtain⟨k,rfl,hk⟩:=bD ht
  have e:AllOf s k v=(CZ s k v,0):=by simp[AllOf,ht,hv]
  rw[e]
  exact adk h hf k hk v hv
end Go.Vd

namespace Go.Proofs.YtbhigdljojlhnaaGreat
set_option linter.all false
open Go.Vc Go.Proofs
set_option maxRecDepth 100000
set_option maxHeartbeats 4000000
attribute [local irreducible] bx jv
theorem Lp(o:Bool){c:Nat}{s:Mt}{r:Rt}(h:aR s)(hf:Fits s)(T:TR c s r)(t:Int):ai Tryz.prog 36 [au o s] (.cons (.ptr 0 [.d]) (.cons (ag t) .nil))
  fun av X κ=>av=fX (.sub 1 [] 0 (eC r t).1.length false) (eC r t).2∧X=[au o s,aB (eC r t).1]∧κ=[]:=by
 have:=QH o h hf t
 rw[QV h T t] at this
 exact this
theorem V3{c:Nat}{s:Mt}{r:Rt}(h:aR s)(hf:Fits s)(T:TR c s r)(t v:Int)(hv:fZ v=true):ai Tryz.prog 39 [au false s] (.cons (.ptr 0 [.d]) (.cons (ag t) (.cons (ag v) .nil)))
  fun av X κ=>av=fX (.sub 1 [] 0 (iq s r t v).1.length false) (iq s r t v).2∧X=[au false s,aB (iq s r t v).1]∧κ=[]:=by
 have:=Go.Vd.ZM h hf t v hv
 rw[all_eq T t v hv] at this
 exact this
theorem Gt(r:Rt)(t:Int):(eC r t).1.length≤r.rows.length:=by
 unfold eC
 split
 ·simp
 ·exact C3 t r.rows
theorem QX(s:Mt)(r:Rt)(t v:Int):(iq s r t v).1.length≤r.rows.length:=by
 unfold iq
 split
 ·simp
 ·exact C4 s t v r.rows
theorem QY{c:Nat}{s:Mt}{r:Rt}(h:aR s)(hf:Fits s)(T:TR c s r)(hc:c≤1000) :
  ai Tryz.prog 14 [au false s,aA r] (.cons (FM 0 1) (.cons (.bE 1) .nil))
  fun av X κ=>av=aN true∧X=[au false s,aA r]∧κ=[]:=by
 have hl:=h.len
 have hrl:=T.lr.len
 have ag1:r.rows.length≤1000:=Nat.le_trans T.cap.1 hc
 have uW:∀v:Nat,v<3→fZ (v:Int)=true:=fun v hv=>by simp[fZ];omega
 refine fb Tryz.func14 Tryz.ntmps14 [.tmp 4] fun w0 I0 F0 hF=>?_
 repeat first|refine n1 ?_|(first|refine rg 0 [0,1] [1,2] [] ?_|refine rg 1 [1,2] [1,2,5] [] ?_);simp[hF,au,aA,dR]
 refine(Ke r.R).go [(1,[.d,.f 1])] (by simp[hF,aA,dR,hrl]) ?_;rintro av X κ ⟨rfl,rfl,rfl⟩;simp[hF,aA,dR,hrl]
 repeat first|refine n1 ?_|refine rg 2 [1,2,5] [1,2,5,24] [] ?_;simp[hF,aA,dR]
 refine(bX false s).go [(0,[])] (by simp[hF,au,dL]) ?_;rintro av X κ ⟨rfl,rfl,rfl⟩;simp[hF,au,dL]
 refine(vI s.L hl).go [(0,[.d,.f 0])] (by simp[hF,au,dL]) ?_;rintro av X κ ⟨rfl,rfl,rfl⟩;simp[hF,au,dL]
 repeat first|refine n1 ?_|refine n2 ?_|refine n3 ?_|(first|refine rg 4 [1,2,5] [1,2,5,6] [] ?_|refine nc ?_);simp[hF,au,dL]
 refine VS.pick [1,2,5,6] [0,1,2] (by simp[hF]) ?_;simp[hF]
 refine VS.rounds (fun m st=>∃(i:Nat),i+m=s.L.length+2∧st=⟨[(1,.bE 1),(2,.ptr 2 [.d]),(5,ag s.L.length),(6,ag ((i:Int)-1))],[au false s,aA r,mM],[],[(2,[.d,.f 0],.ptr 0 [.d]),(2,[.d,.f 1],.ptr 1 [.d])]⟩) ⟨s.L.length+2,0,by omega,by simp[au,aA,dR,mM,dL]⟩ ?_
 rintro m st ⟨i,hi,rfl⟩
 by_cases hlt:i<s.L.length+2
 ·have hle:(i:Int)-1≤s.L.length:=by omega
  obtain⟨t,ht⟩:∃t:Int,t=(i:Int)-1:=⟨_,rfl⟩
  rw[←ht] at hle ⊢
  have cn1:=Lp false h hf T t
  have cn2:=Lh r (by omega) t
  have cn3:=C9 (eC r t).1 (by have:=Gt r t;omega)
  generalize eC r t=nm at *
  obtain⟨nl,ne⟩:=nm
  repeat first|refine n1 ?_|refine n2 ?_|refine n3 ?_|(first|refine rg 5 [1,2,5,6] [1,2,5,6,27] [] ?_|refine rg 7 [1,2,5,6] [1,2,5,6,7,8] [] ?_|refine nc ?_);simp[hF,hle,mM]
  refine(cn1).go [(0,[])] (by simp[hF,au]) ?_;rintro av X κ ⟨rfl,rfl,rfl⟩;simp[hF,au]
  repeat first|refine n1 ?_|refine rg 8 [1,2,5,6,7,8] [1,2,5,6,7,8,9,10] [] ?_;simp[hF,mM]
  refine(cn2).go [(1,[])] (by simp[hF,aA]) ?_;rintro av X κ ⟨rfl,rfl,rfl⟩;simp[hF,aA]
  repeat first|refine n1 ?_|refine rg 9 [1,2,5,6,7,8,9,10] [1,2,5,6,52] [(3,47)] ?_;simp[hF]
  refine(cn3).go [(3,[])] (by simp[hF,aB]) ?_;rintro av X κ ⟨rfl,rfl,rfl⟩;simp[hF,aB]
  repeat first|refine n1 ?_|refine n2 ?_|refine n3 ?_|(first|refine rg 11 [1,2,5,6] [1,2,5,6,11] [] ?_|refine nc ?_);simp[hF]
  refine VS.pick [1,2,5,6,11] [0,1,2] (by simp[hF]) ?_;simp[hF]
  refine VS.rounds (fun m2 st=>∃(v:Nat),v+m2=3∧st=⟨[(1,.bE 1),(2,.ptr 2 [.d]),(5,ag s.L.length),(6,ag t),(11,ag v)],[au false s,aA r,mM],[],[(2,[.d,.f 0],.ptr 0 [.d]),(2,[.d,.f 1],.ptr 1 [.d])]⟩) ⟨3,0,by omega,by simp[au,aA,mM]⟩ ?_
  rintro m2 st ⟨v,hv,rfl⟩
  by_cases QI:v<3
  ·have ZQ:(v:Int)<3:=by omega
   have hwv:IntKind.i64.wrap ((v:Int)+1)=((v+1:Nat):Int):=by rw[IntWalk.i64_in _ (by omega)];rfl
   have ca1:=V3 h hf T t v (uW v QI)
   have ca2:=VY h T (by omega) t v (uW v QI)
   have ca3:=C9 (iq s r t v).1 (by have:=QX s r t v;omega)
   generalize iq s r t v=am at *
   obtain⟨al,ae⟩:=am
   repeat first|refine n1 ?_|refine n2 ?_|refine n3 ?_|(first|refine rg 12 [1,2,5,6,11] [1,2,5,6,11,54] [] ?_|refine rg 14 [1,2,5,6,11] [1,2,5,6,7,8,11] [] ?_|refine nc ?_);simp[hF,ZQ,mM]
   refine(ca1).go [(0,[])] (by simp[hF,au]) ?_;rintro av X κ ⟨rfl,rfl,rfl⟩;simp[hF,au]
   repeat first|refine n1 ?_|refine rg 15 [1,2,5,6,7,8,11] [1,2,5,6,7,8,9,10,11] [] ?_;simp[hF,mM]
   refine(ca2).go [(1,[])] (by simp[hF,aA]) ?_;rintro av X κ ⟨rfl,rfl,rfl⟩;simp[hF,aA]
   repeat first|refine n1 ?_|refine rg 16 [1,2,5,6,7,8,9,10,11] [1,2,5,6,11,81] [(3,76)] ?_;simp[hF]
   refine(ca3).go [(3,[])] (by simp[hF,aB]) ?_;rintro av X κ ⟨rfl,rfl,rfl⟩;simp[hF,aB]
   repeat first|refine n2 ?_|refine n4 ?_|refine n5 ?_|refine n6 ?_|(first|refine rg 13 [1,2,5,6,11] [1,2,5,6,11] [] ?_|refine nc ?_);simp[hF,hwv]
   refine aO.of [1,2,5,6,11] [0,1,2] (m2-1) (by omega) (by simp[hF]) ?_
   exact⟨v+1,by omega,by simp[au,aA,mM]⟩
  ·have ZQ:¬(v:Int)<3:=by omega
   repeat first|refine n1 ?_|refine n3 ?_|refine n7 ?_|(first|refine rg 12 [1,2,5,6,11] [1,2,5,6,11,54] [] ?_|refine rg 18 [1,2,5,6] [1,2,5,6,12] [] ?_|refine nc ?_);simp[hF,ZQ]
   refine VS.pick [1,2,5,6,12] [0,1,2] (by simp[hF]) ?_;simp[hF]
   refine VS.rounds (fun m3 st=>∃(j:Nat),j+m3=4∧st=⟨[(1,.bE 1),(2,.ptr 2 [.d]),(5,ag s.L.length),(6,ag t),(12,ag j)],[au false s,aA r,mM],[],[(2,[.d,.f 0],.ptr 0 [.d]),(2,[.d,.f 1],.ptr 1 [.d])]⟩) ⟨4,0,by omega,by simp[au,aA,mM]⟩ ?_
   rintro m3 st ⟨j,hj,rfl⟩
   by_cases hj4:j<4
   ·have ZR:(j:Int)<4:=by omega
    have Ve:IntKind.i64.wrap ((j:Int)+1)=((j+1:Nat):Int):=by rw[IntWalk.i64_in _ (by omega)];rfl
    obtain⟨nm,hnm⟩:∃nm,nm=nameOf j ⟨#[]⟩:=⟨_,rfl⟩
    have cs:=VZ false h T (by omega) t nm
    repeat first|refine n1 ?_|refine n2 ?_|refine n3 ?_|(first|refine rg 19 [1,2,5,6,12] [1,2,5,6,12,83] [] ?_|(refine dr 21 0 [1,2,5,6,12] [1,2,5,6,12,100] [(7,93)] [⟨0,4,77371252455336267181195264,6⟩,⟨0,64,154742504910672534362390528,5⟩,⟨0,4096,309485009821345068724781056,5⟩,⟨4,309485009821345068724781056,618970019642690137449562112,0⟩,⟨0,2,1237940039285380274899124224,5⟩,⟨27,2089023816294079213892272128,2475880078570760549798248448,0⟩,⟨32,2475880078570760549798248448,4951760157141521099596496896,5⟩,⟨96,4951760157141521099596496896,9903520314283042199192993792,5⟩,⟨128,9903520314283042199192993796,19807040628566084398385987584,6⟩,⟨128,9903520314283042199192993856,39614081257132168796771975168,5⟩,⟨128,9903520314283042199192997888,79228162514264337593543950336,5⟩,⟨1152,89131682828547379792736944128,158456325028528675187087900672,0⟩,⟨2944,227780967228509970581438857216,316912650057057350374175801344,0⟩,⟨4224,326816170371340392573368795136,633825300114114700748351602688,5⟩,⟨8320,643728820428397742947544596480,1267650600228229401496703205376,5⟩] (.take 1 (.take 2 (.take 4 (.fork (.alt 0 (.fork (.alt 3 (.fork (.alt 5 (.take 6 (.take 7 (.take 9 (.take 10 (.fork (.alt 8 (.fork (.alt 11 (.fork (.alt 12 (.take 13 (.take 14 (.done))) (.nil))) (.nil))) (.alt 11 (.take 8 (.fork (.alt 12 (.take 13 (.take 14 (.done))) (.nil)))) (.nil)))))))) (.nil))) (.nil))) (.alt 3 (.take 0 (.fork (.alt 5 (.take 6 (.take 7 (.take 9 (.take 10 (.fork (.alt 8 (.fork (.alt 11 (.fork (.alt 12 (.take 13 (.take 14 (.done))) (.nil))) (.nil))) (.alt 11 (.take 8 (.fork (.alt 12 (.take 13 (.take 14 (.done))) (.nil)))) (.nil)))))))) (.nil)))) (.nil))))))) (.run [1,2,4] (.both (.run [0,3,5,6,7,9,10] (.both (.run [8,11,12,13,14] (.done)) (.run [11,8,12,13,14] (.done)))) (.run [3,0,5,6,7,9,10] (.both (.run [8,11,12,13,14] (.done)) (.run [11,8,12,13,14] (.done)))))) ?_;simp only[nD])|refine nc ?_);simp[hF,ZR,mM]
    refine⟨?_,?_⟩
    ·have:=Ve
     refine(bL j ⟨#[]⟩).go [] (by simp[hF,←hnm,mM]) ?_;rintro av X κ ⟨rfl,rfl,rfl⟩;simp[hF,←hnm,mM]
     refine(cs).go [(0,[]),(1,[])] (by simp[hF,au,aA]) ?_;rintro av X κ ⟨rfl,rfl,rfl⟩;simp[hF,au,aA]
     refine⟨?_,?_⟩
     ·have:=Ve
      refine(bL j ⟨#[]⟩).go [] (by simp[hF,←hnm,mM]) ?_;rintro av X κ ⟨rfl,rfl,rfl⟩;simp[hF,←hnm,mM]
      refine(cs).go [(0,[]),(1,[])] (by simp[hF,au,aA]) ?_;rintro av X κ ⟨rfl,rfl,rfl⟩;simp[hF,au,aA]
      repeat first|refine n2 ?_|refine n4 ?_|refine n5 ?_|refine n6 ?_|(first|refine rg 20 [1,2,5,6,12] [1,2,5,6,12] [] ?_|refine nc ?_);simp[hF,Ve]
      refine aO.of [1,2,5,6,12] [0,1,2] (m3-1) (by omega) (by simp[hF]) ?_
      exact⟨j+1,by omega,by simp[au,aA,mM]⟩
     ·have:=Ve
      refine(bL j ⟨#[]⟩).go [] (by simp[hF,←hnm,mM]) ?_;rintro av X κ ⟨rfl,rfl,rfl⟩;simp[hF,←hnm,mM]
      refine(cs).go [(0,[]),(1,[])] (by simp[hF,au,aA]) ?_;rintro av X κ ⟨rfl,rfl,rfl⟩;simp[hF,au,aA]
      repeat first|refine n2 ?_|refine n4 ?_|refine n5 ?_|refine n6 ?_|(first|refine rg 20 [1,2,5,6,12] [1,2,5,6,12] [] ?_|refine nc ?_);simp[hF,Ve]
      refine aO.of [1,2,5,6,12] [0,1,2] (m3-1) (by omega) (by simp[hF]) ?_
      exact⟨j+1,by omega,by simp[au,aA,mM]⟩
    ·have:=Ve
     refine(bL j ⟨#[]⟩).go [] (by simp[hF,←hnm,mM]) ?_;rintro av X κ ⟨rfl,rfl,rfl⟩;simp[hF,←hnm,mM]
     refine(cs).go [(0,[]),(1,[])] (by simp[hF,au,aA]) ?_;rintro av X κ ⟨rfl,rfl,rfl⟩;simp[hF,au,aA]
     refine⟨?_,?_⟩
     ·have:=Ve
      refine(bL j ⟨#[]⟩).go [] (by simp[hF,←hnm,mM]) ?_;rintro av X κ ⟨rfl,rfl,rfl⟩;simp[hF,←hnm,mM]
      refine(cs).go [(0,[]),(1,[])] (by simp[hF,au,aA]) ?_;rintro av X κ ⟨rfl,rfl,rfl⟩;simp[hF,au,aA]
      repeat first|refine n2 ?_|refine n4 ?_|refine n5 ?_|refine n6 ?_|(first|refine rg 20 [1,2,5,6,12] [1,2,5,6,12] [] ?_|refine nc ?_);simp[hF,Ve]
      refine aO.of [1,2,5,6,12] [0,1,2] (m3-1) (by omega) (by simp[hF]) ?_
      exact⟨j+1,by omega,by simp[au,aA,mM]⟩
     ·have:=Ve
      refine(bL j ⟨#[]⟩).go [] (by simp[hF,←hnm,mM]) ?_;rintro av X κ ⟨rfl,rfl,rfl⟩;simp[hF,←hnm,mM]
      refine(cs).go [(0,[]),(1,[])] (by simp[hF,au,aA]) ?_;rintro av X κ ⟨rfl,rfl,rfl⟩;simp[hF,au,aA]
      repeat first|refine n2 ?_|refine n4 ?_|refine n5 ?_|refine n6 ?_|(first|refine rg 20 [1,2,5,6,12] [1,2,5,6,12] [] ?_|refine nc ?_);simp[hF,Ve]
      refine aO.of [1,2,5,6,12] [0,1,2] (m3-1) (by omega) (by simp[hF]) ?_
      exact⟨j+1,by omega,by simp[au,aA,mM]⟩
   ·have ZR:¬(j:Int)<4:=by omega
    have hwt:IntKind.i64.wrap (t+1)=((i+1:Nat):Int)-1:=by rw[IntWalk.i64_in _ (by omega)];omega
    repeat first|refine n1 ?_|refine n4 ?_|refine n5 ?_|refine n6 ?_|refine n7 ?_|(first|refine rg 6 [1,2,5,6] [1,2,5,6] [] ?_|refine rg 19 [1,2,5,6,12] [1,2,5,6,12,83] [] ?_|refine nc ?_);simp[hF,ZR,hwt]
    refine aO.of [1,2,5,6] [0,1,2] (m-1) (by omega) (by simp[hF]) ?_
    exact⟨i+1,by omega,by simp[au,aA,mM]⟩
 ·have hle:¬(i:Int)-1≤s.L.length:=by omega
  repeat first|refine n1 ?_|refine n7 ?_|(first|refine rg 5 [1,2,5,6] [1,2,5,6,27] [] ?_|refine rg 23 [] [4] [] ?_|refine nc ?_);simp[hF,hle]
  (try refine nr ?_);(repeat first|refine aF ?_|refine aG ?_);refine ak.o [4] [0,1] [] ?_;simp[hF,an,aa,ah,au,aA]
end Go.Proofs.YtbhigdljojlhnaaGreat

namespace Go.Proofs.YtbhigdljojlhnaaGreat
set_option linter.all false
open Go.Vc Go.Proofs
theorem YB(e:En):(aK e).freeze=aK e:=rfl
@[simp] theorem ZS(t:Tb):(uV t).freeze=uV t:=by
 rw[uV,pP,List.map_map];rfl
@[simp] theorem V4(o:Bool)(l:List (Key×Tb)):(gn o l).freeze=gn false l:=by
 rw[gn,gn,pP,List.map_map]
 refine congrArg sq (List.map_congr_left fun x _=>?_)
 simp[T.freeze]
@[simp] theorem YC(o:Bool)(s:D):(.map o () s:D).freeze=.map false () s.freeze:=rfl
end Go.Proofs.YtbhigdljojlhnaaGreat

namespace Go.Vd
set_option linter.all false
open Go Go.Vc Go.Proofs
def wI (c:Cx) (nb nb1:Nat) (κ0:List (Nat×Path)) (J:St→Prop) (e:Exit) (st:St):Prop:=∃st',(∀a w,Rel c st a w→Rel c st' a w)∧lC nb nb1 κ0 J e st'
section
variable {c:Cx} {nb nb1:Nat} {κ0:List (Nat×Path)} {J:St→Prop} {e:Exit} {st:St}
theorem wI.of(h:lC nb nb1 κ0 J e st):wI c nb nb1 κ0 J e st:=⟨st,fun _ _ h=>h,h⟩
theorem wI.settle(k:Nat)(q:Path)(av:AV)(hm:(k,q,av)∈st.pl)(hq:q≠[]∧av.dx=true)(hok:((av.lay c.F0.length st.X).tree k).dU q=true)(hne:T.noEntry true ((av.lay c.F0.length st.X).tree k) q=true)
  (h:wI c nb nb1 κ0 J e (st.settle c.F0.length k q av)):wI c nb nb1 κ0 J e st :=
 let ⟨st',h1,h2⟩:=h
 ⟨st',fun a w hr=>h1 a w (hr.settle hm hq hok hne),h2⟩
theorem wI.to{x:Code}(h:VS c [x] (wI c nb nb1 κ0 J) st):VS c [x] (lC nb nb1 κ0 J) st:=by
 rw[jN] at h ⊢
 refine DC.mono' h fun e st a w hk hr=>?_
 cases e with
 | normal =>
  have hk':VS c [] (wI c nb nb1 κ0 J) st:=hk
  rw[aar] at hk'
  obtain⟨st',h1,h2⟩:=hk'
  exact⟨st',by show VS c [] _ st';rw[aar];exact h2,h1 a w hr⟩
 | _=>obtain⟨st',h1,h2⟩:=(show wI c nb nb1 κ0 J _ st from hk);exact⟨st',h2,h1 a w hr⟩
@[congr] theorem acy{st':St}(h:tick st=st'):wI c nb nb1 κ0 J e st=wI c nb nb1 κ0 J e st':=by rw[bl] at h;rw[h]
end
attribute [irreducible] wI
theorem adl{c:Cx}{ρ:Go.Shelf.Ren}(Ly:SlLaysW.n5 c.P ρ)(hb:iX c.P (ρ.f 5)){st:St}{K:AV→St→Prop}{k:Nat}{q:Path}{o:Bool}{m:D}(h:(st.tree k).at_ q=.map o () m∧m.free=true)
  (hK:K (.mp st.X.length []) { st with X:=st.X++[.map true () m] }):bx c (ρ.f 5) (.cons (.mp k q) .nil) st K:=by
 rintro a w vs ⟨hd,hs,I,F,hi,he,hp,hvs⟩
 refine⟨hb,?_⟩
 obtain⟨v,vs',rfl,hv,WD⟩:=hvs
 obtain rfl:vs'=[]:=WD
 obtain⟨Md,r,z',len',hh,Kw⟩:=hv
 simp only[List.cons.injEq,and_true] at Kw
 subst Kw
 obtain⟨es,cl,s0,hs0,H1,hr,qC,hst⟩:∃es cl,∃s0:G,s0.erase=m∧T.Holds w.heap I s0∧w.heap[r]? = some (.map es cl)∧T.aD es.toList s0∧MapKept.Stamped es cl:=by
  unfold bM at hh
  cases hf:F[k]? with
  | none=>rw[hf] at hh;simp at hh
  | some f =>
   rw[hf] at hh
   simp only[Option.bind_some] at hh
   have vo:(f.at_ q).erase=.map o () m:=by
    rw[T.bJ,←h.1]
    unfold St.tree
    rw[←hi.erase,List.getD_eq_getElem?_getD,List.getElem?_map,hf];rfl
   obtain⟨a0,s0,WA,hs0⟩:∃a0 s0,f.at_ q=.map o a0 s0∧s0.erase=m:=by
    generalize f.at_ q=fq at vo
    cases fq<;>simp only[T.erase] at vo<;>cases vo
    exact⟨_,_,rfl,rfl⟩
   have hH:=(hi.holds f (List.mem_of_getElem? hf)).at_ q
   rw[WA] at hH hh
   simp only[T.cM,Option.some.injEq,Prod.mk.injEq] at hh
   obtain⟨_,rfl,_,_⟩:=hh
   obtain⟨h1,_,_,es,cl,hr',qC,hst⟩:=hH
   exact⟨es,cl,s0,hs0,h1,hr',qC,hst⟩
 have zY:s0.owned=[]:=T.cG (by rw[←aaa,hs0];exact h.2)
 refine(AnyW.maps_Clone Ly r es cl w hr).mono ?_
 rintro e' w' ⟨rfl,rfl⟩
 obtain⟨ob,hob⟩:∃ob,ob=Obj.map es cl:=⟨_,rfl⟩
 rw[←hob]
 have hnew:(w.alloc ob).heap[w.heap.size]? = some (.map es cl):=by rw[hob];exact World.alloc_heap_new w _
 have hg:T.Holds (w.alloc ob).heap I (.map true (.map (some w.heap.size)) s0) :=
  ⟨H1.agree (by rw[zY];intro b hb;cases hb) (fun b hb=>qI (hi.ic b hb)) (fun _ h=>h),(fun h=>by cases h),(fun h=>by cases h),es,cl,hnew,qC,hst⟩
 have hown:(T.map true (.map (some w.heap.size)) s0:G).owned=[w.heap.size]:=by simp[T.owned,zY,T.blk]
 obtain⟨yd,g1,g2,g3⟩:=Rel.AU (c:=c) (st:=st) (a:=a) hd hs hi he hp (o:=ob) hg (fun b hb=>by rw[hown];simp[List.count_cons,Ne.symm hb]) (by rw[hown];simp)
 have he1:(T.map true (.map (some w.heap.size)) s0:G).erase=.map true () m:=by simp[T.erase,hs0]
 rw[he1] at g1
 refine⟨_,_,_,rfl,hK,⟨hd.alloc ob,hs,I,_,g1,g2,g3,?_⟩,fun _ b hb=>qI hb⟩
 rw[←yd]
 exact⟨true,w.heap.size,0,0,by simp[bM,T.at_,T.cM],rfl⟩
end Go.Vd

namespace Go.Vd
set_option linter.all false
open Go.Vc Go.Proofs Go.Proofs.YtbhigdljojlhnaaGreat
set_option maxRecDepth 100000
set_option maxHeartbeats 4000000
attribute [local irreducible] bx jv
def wB (l:List (Key×Tb)) (i:Nat):Key×Tb:=l.getD i ((0,0),[])
theorem Ax{l:List (Key×Tb)}{i:Nat}(h:i<l.length):wB l i=l[i]:=by rw[wB,List.getD_eq_getElem?_getD,List.getElem?_eq_getElem h];rfl
def wU (l:List (Key×Tb)) (S:List Nat):List (Key×Tb):=S.reverse.map (wB l)
theorem abT{l:List (Key×Tb)}{k:Key}(h:k∉l.map (·.1))(t:Tb):cz l k t=l++[(k,t)]:=by
 induction l with
 | nil=>rfl
 | cons e l ih =>
  simp only[List.map_cons,List.mem_cons,not_or] at h
  unfold cz
  rw[if_neg (fun q=>h.1 q.symm),ih h.2];rfl
theorem aa3{l:List (Key×Tb)}(hn:(l.map (·.1)).Nodup){i:Nat}{S:List Nat}(hi:i<l.length)(hS:i∉S)(hl:∀j∈S,j<l.length):cz (wU l S) (wB l i).1 (wB l i).2=wU l (i::S):=by
 rw[abT]
 ·simp[wU]
 ·intro hm
  rw[wU,List.map_map,List.mem_map] at hm
  obtain⟨j,hj,e⟩:=hm
  have hj:=List.mem_reverse.1 hj
  have hjl:=hl j hj
  have e2:(l.map (·.1))[j]'(by simpa using hjl)=(l.map (·.1))[i]'(by simpa using hi):=by
   simpa[Ax hi,Ax hjl] using e
  exact hS ((List.getElem_inj hn).1 e2▸hj)
theorem aaq{l:List (Key×Tb)}{S:List Nat}(hn:S.Nodup)(h1:∀i,i<l.length→i∈S)(h2:∀i∈S,i<l.length):(wU l S).Perm l:=by
 have hp:S.reverse.Perm (List.range l.length):=by
  refine(List.reverse_perm S).trans ?_
  refine(List.perm_ext_iff_of_nodup hn List.nodup_range).2 fun i=>?_
  rw[List.mem_range]
  exact⟨h2 i,h1 i⟩
 have h3:=hp.map (wB l)
 have h4:(List.range l.length).map (wB l)=l:=by
  apply List.ext_getElem
  ·simp
  ·intro i h5 h6
   rw[List.getElem_map,List.getElem_range,Ax h6]
 rw[h4] at h3
 exact h3
theorem adi(t:Tb):(uV t).free=true:=jL fun x hx=>by obtain⟨n,_,rfl⟩:=List.mem_map.1 hx;rfl
theorem abV{κ:List (Nat×Path)}{nb:Nat}(h:∀e∈κ,nb≤e.1):∀(j:Nat) (q:Path) (s:Bool),j<nb→dead κ j q s=false:=fun j q s hj=>by
 unfold dead
 rw[List.any_eq_false]
 intro x hx hc
 have:=h x hx
 simp only[Bool.and_eq_true,beq_iff_eq] at hc
 omega
section
variable {nt:Nat} {w0:World} {I0:Nat→Prop} {F0:List G} {st:St} {K:AV→St→Prop}
theorem abW{k:Nat}{q:Path}{o:Bool}{m:D}(h:(st.tree k).at_ q=.map o () m∧m.free=true)(hK:K (.mp st.X.length []) { st with X:=st.X++[.map true () m] }) :
  bx ⟨Tryz.prog,nt,w0,I0,F0⟩ 50 (.cons (.mp k q) .nil) st K :=
 adl (c:=⟨Tryz.prog,nt,w0,I0,F0⟩) ado ⟨_,Tryz.func50,by kernel_rfl,by kernel_rfl⟩ h hK
end
theorem adB{s:Mt}(h:aR s):ai Tryz.prog 16 [au false s] (.cons (.ptr 0 [.d]) .nil)
  fun av X κ=>∃aT:List (Key×Tb),aT.Perm s.aT∧av=.ptr 1 [.d]∧X=[au false s,au true ⟨s.L,aT,s.fz⟩]∧κ=[]:=by
 have qy:=aa1 true (YH s.fz) (jL fun x hx=>by obtain⟨n,_,rfl⟩:=List.mem_map.1 hx;rfl)
 have hcp:=VO h.ok h.pos
 refine fb Tryz.func16 Tryz.ntmps16 [.tmp 2] fun w0 I0 F0 hF=>?_
 repeat first|refine n1 ?_|(first|refine rg 0 [0] [0] [] ?_|refine rg 1 [0] [0,7] [] ?_);simp[hF]
 refine(nP false s).go [(0,[])] (by simp[hF,au]) ?_;rintro av X κ ⟨rfl,rfl,rfl⟩;simp[hF,au]
 generalize hT:Code.seq (Code.region 4 _ _) _=cr
 apply merged
 ·intro key
  repeat first|refine n1 ?_|refine n2 ?_|(first|(refine dr 3 0 [0] [0,3] [] [⟨0,1,256,5⟩,⟨1,256,512,5⟩,⟨2,512,1024,5⟩,⟨4,1024,2048,6⟩,⟨8,2048,4096,0⟩,⟨0,0,8192,4⟩,⟨0,1,16384,5⟩,⟨64,16384,32768,5⟩,⟨128,32768,65536,5⟩,⟨256,65536,131072,6⟩,⟨528,131072,262144,0⟩,⟨1072,274432,524288,5⟩,⟨2048,524288,1048576,4⟩,⟨8191,1048576,8,5⟩] (.take 0 (.take 1 (.take 2 (.take 3 (.take 6 (.take 7 (.take 8 (.fork (.alt 4 (.take 9 (.fork (.alt 5 (.fork (.alt 10 (.take 11 (.fork (.alt 12 (.take 13 (.done)) (.nil)))) (.nil))) (.alt 10 (.fork (.alt 5 (.take 11 (.fork (.alt 12 (.take 13 (.done)) (.nil)))) (.nil))) (.nil))))) (.alt 5 (.fork (.alt 4 (.take 9 (.fork (.alt 10 (.take 11 (.fork (.alt 12 (.take 13 (.done)) (.nil)))) (.nil)))) (.alt 9 (.fork (.alt 4 (.fork (.alt 10 (.take 11 (.fork (.alt 12 (.take 13 (.done)) (.nil)))) (.nil))) (.nil))) (.nil)))) (.alt 9 (.fork (.alt 4 (.fork (.alt 5 (.fork (.alt 10 (.take 11 (.fork (.alt 12 (.take 13 (.done)) (.nil)))) (.nil))) (.alt 10 (.fork (.alt 5 (.take 11 (.fork (.alt 12 (.take 13 (.done)) (.nil)))) (.nil))) (.nil)))) (.alt 5 (.fork (.alt 4 (.fork (.alt 10 (.take 11 (.fork (.alt 12 (.take 13 (.done)) (.nil)))) (.nil))) (.nil))) (.nil)))) (.nil)))))))))))) (.run [0,1,2,3,6,7,8] (.both (.run [4,9] (.both (.run [5,10,11,12,13] (.done)) (.run [10,5,11,12,13] (.done)))) (.both (.run [5] (.both (.run [4,9,10,11,12,13] (.done)) (.run [9,4,10,11,12,13] (.done)))) (.run [9] (.both (.run [4] (.both (.run [5,10,11,12,13] (.done)) (.run [10,5,11,12,13] (.done)))) (.run [5,4,10,11,12,13] (.done))))))) ?_;simp only[nD])|refine nc ?_);simp[hF,au,dL]
  (repeat' with_reducible refine And.intro ?_ ?_)
  all_goals
   refine(hcp).go [(0,[.d,.f 0])] (by simp[hF,au,dL]) ?_;rintro av X κ ⟨rfl,rfl,rfl⟩;simp[hF,au,dL]
   (repeat' with_reducible refine And.intro ?_ ?_)
   all_goals
    refine(qy).go [(0,[.d,.f 2])] (by simp[hF,au,dL]) ?_;rintro av X κ ⟨rfl,rfl,rfl⟩;simp[hF,au,dL]
    refine VS.pick [0,3] [0,4] (by simp[hF]) ?_;simp[hF]
    exact key ()
 subst hT
 refine n1 ?_
 refine rgR 4 [0,3] [] ?_
 simp only[List.dropLast]
 simp
 refine gy.pick [3,24] [0,1] ?_
 simp[hF]
 refine mfY (k:=0) (q:=[.d,.f 1]) (n:=s.aT.length) (sD:=gn false s.aT) (kv:=fun i=>adI (wB s.aT i).1) (kA:=fun i=>YM (wB s.aT i).1.1 (wB s.aT i).1.2) (vA:=fun i=>.mp 0 [.d,.f 1,.i i,.f 1]) (κ0:=[]) [] (by simp)
  [3,25] (fun p S st=>st=⟨[(3,.ptr 1 [.d]),(25,.val p)],[au false s,au true ⟨s.L,wU s.aT S,s.fz⟩],[],[]⟩) (by simp) ?_ ?_ (by simp) ?_ ?_ ?_ ?_ (by simp[hF])
 ·intro p
  simp[St.keep,au,dL,wU]
 ·rintro p S st rfl
  simp[au]
 ·intro i hi
  refine⟨.map false () (uV (wB s.aT i).2),?_,.inr ⟨rfl,rfl⟩⟩
  rw[jz false (k:=(wB s.aT i).1) (t:=(wB s.aT i).2) ⟨hi,by rw[Ax hi]⟩]
  rfl
 ·intro i hi h I F
  exact⟨[.int .i64 (wB s.aT i).1.1,.int .i64 (wB s.aT i).1.2],rfl,[_],[_],rfl,⟨rfl,rfl⟩,[_],[],rfl,⟨rfl,rfl⟩,rfl⟩
 ·rintro p S i st rfl hi hiS hS1 hS2 w1 I1 F1 Le hI1
  have Le:F1.length=2:=Le
  have fW:=Ax hi
  simp
  refine wI.to ?_
  have hk:cz (wU s.aT S) (wB s.aT i).1 (wB s.aT i).2=wU s.aT (i::S):=aa3 h.nd hi hiS hS2
  have ij:=jz false (l:=s.aT) (i:=i) (k:=(wB s.aT i).1) (t:=(wB s.aT i).2) ⟨hi,by rw[fW]⟩
  have hput:=LI true (wU s.aT S) (wB s.aT i).1.1 (wB s.aT i).1.2 (wB s.aT i).2
  rw[show ((wB s.aT i).1.1,(wB s.aT i).1.2)=(wB s.aT i).1 from rfl,hk] at hput
  generalize wB s.aT i=p7 at *
  obtain⟨⟨a,b⟩,tb⟩:=p7
  simp only at hput ij
  generalize wU s.aT (i::S)=mF at *
  generalize wU s.aT S=acc at *
  clear hk fW
  refine eP 1 [.d,.f 1] ?_;simp[hF,St.lift,AV.lift,cJ,cK,dV,isNode,au,Le]
  apply merged
  ·intro key
   repeat first|(((refine dr 7 0 [3,4,5,25] [3,25] [] [⟨0,8,2147483648,5⟩,⟨1,2147483648,4294967296,5⟩,⟨2,4294967296,8589934592,5⟩,⟨4,8589934592,17179869184,6⟩,⟨0,16,34359738368,6⟩,⟨0,32,68719476736,5⟩,⟨32,68719476736,137438953472,0⟩,⟨127,188978561024,0,0⟩] (.take 0 (.take 1 (.take 2 (.take 5 (.fork (.alt 3 (.fork (.alt 4 (.fork (.alt 6 (.fork (.alt 7 (.done) (.nil))) (.nil))) (.alt 6 (.take 4 (.fork (.alt 7 (.done) (.nil)))) (.nil)))) (.alt 4 (.fork (.alt 3 (.fork (.alt 6 (.fork (.alt 7 (.done) (.nil))) (.nil))) (.alt 6 (.take 3 (.fork (.alt 7 (.done) (.nil)))) (.nil)))) (.alt 6 (.take 3 (.take 4 (.fork (.alt 7 (.done) (.nil))))) (.nil))))))))) (.run [0,1,2,5] (.both (.run [3] (.both (.run [4,6,7] (.done)) (.run [6,4,7] (.done)))) (.both (.run [4] (.both (.run [3,6,7] (.done)) (.run [6,3,7] (.done)))) (.run [6,3,4,7] (.done))))) ?_;simp only[nD]));simp[hF,Le,au])
   (repeat' with_reducible refine And.intro ?_ ?_)
   all_goals
    refine abW (o:=false) (m:=uV tb) ⟨by simp[St.tree,ij,hi],adi tb⟩ ?_
    simp[hput,Le]
    exact key ()
  refine n4 ?_
  refine wI.settle 1 [.d,.f 1] (.mp 3 []) (by simp) (by simp) (by simp[Le,Tk.tree]) (by simp[Le,Tk.tree]) ?_
  simp[Le,St.settle,Tk.tree]
  refine wI.of (lC.of [3,25] [0,1] ⟨⟨by simp[Le],abV (by simp[hF])⟩,by simp[au]⟩)
 ·rintro p S st rfl hall hS1 hS2
  simp only[]
  repeat first|refine n1 ?_|refine rg 8 [3] [2] [] ?_;simp[hF]
  (try refine nr ?_);(repeat first|refine aF ?_|refine aG ?_);refine ak.o [2] [0,1] [] ?_;simp[hF,an,aa,ah,au,dL]
  exact⟨_,aaq hS1 hall hS2,rfl⟩
end Go.Vd

namespace Go.Proofs.YtbhigdljojlhnaaGreat
set_option linter.all false
open Go.Vc Go.Proofs
set_option maxRecDepth 100000
set_option maxHeartbeats 4000000
attribute [local irreducible] bx jv
def afK:bY:=.fork (.alt 16 (.take 17 (.fork (.alt 18 (.take 19 (.done)) (.nil)))) (.nil))
def aa4:bY:=.fork (.alt 10 afK (.nil))
def abX:bY:=.fork (.alt 10 (.fork (.alt 11 afK (.nil))) (.alt 11 aa4 (.nil)))
def acD:bY:=.fork (.alt 4 aa4 (.nil))
def ab2:bY:=.fork (.alt 5 aa4 (.nil))
def adP:bY:=.fork (.alt 4 (.take 15 aa4) (.alt 15 acD (.nil)))
def adT:bY:=.fork (.alt 4 (.take 9 aa4) (.alt 9 acD (.nil)))
def ad0:bY:=.fork (.alt 4 abX (.alt 11 acD (.nil)))
def ad2:bY:=.fork (.alt 4 ab2 (.alt 5 acD (.nil)))
def acE:bY:=.fork (.alt 5 abX (.alt 11 ab2 (.nil)))
def acS:bY:=.fork (.alt 4 (.take 9 (.take 15 aa4)) (.alt 9 adP (.alt 15 adT (.nil))))
def acZ:bY:=.fork (.alt 4 (.take 15 abX) (.alt 11 adP (.alt 15 ad0 (.nil))))
def ac2:bY:=.fork (.alt 4 (.take 15 ab2) (.alt 5 adP (.alt 15 ad2 (.nil))))
def ac7:bY:=.fork (.alt 4 (.take 9 abX) (.alt 9 ad0 (.alt 11 adT (.nil))))
def ac8:bY:=.fork (.alt 4 (.take 9 ab2) (.alt 5 adT (.alt 9 ad2 (.nil))))
def adg:bY:=.fork (.alt 4 acE (.alt 5 ad0 (.alt 11 ad2 (.nil))))
def ab7:OP:=.eS 16 (.run [16,17,18,19] (.done))
def Vf:OP:=.eS 10 (.run [10] ab7)
def aa6:OP:=.both (.eS 10 (.run [10,11] ab7)) (.run [11] Vf)
def acF:OP:=.both (.run [4,15] Vf) (.run [15,4] Vf)
def acM:OP:=.both (.run [4,9] Vf) (.run [9,4] Vf)
def acN:OP:=.both (.run [4,5] Vf) (.run [5,4] Vf)
def acR:OP:=.both (.run [4] aa6) (.run [11,4] Vf)
def acd:OP:=.both (.run [5] aa6) (.run [11,5] Vf)
def ad4:OP:=.both (.run [4,9,15] Vf) (.both (.run [9] acF) (.run [15] acM))
def ad5:OP:=.both (.run [4,15,5] Vf) (.both (.run [5] acF) (.run [15] acN))
def ad6:OP:=.both (.run [4,15] aa6) (.both (.run [11] acF) (.run [15] acR))
def ace:OP:=.both (.run [4,9,5] Vf) (.both (.run [5] acM) (.run [9] acN))
def acf:OP:=.both (.run [4,9] aa6) (.both (.run [9] acR) (.run [11] acM))
def acg:OP:=.both (.run [4] acd) (.both (.run [5] acR) (.run [11] acN))
theorem aa7{r:Rt}{b:Int→Nat}(B:ez r.R b)(hb:r.rows.length≤1000000∧r.qB.length≤1000000):ai Tryz.prog 17 [aA r] (.cons (.ptr 0 [.d]) .nil)
  fun av X κ=>av=.ptr 1 [.d]∧X=[aA r,aA r]∧κ=[]:=by
 have hc:=vV B
 obtain⟨Cf,zU⟩:=hb
 refine fb Tryz.func17 Tryz.ntmps17 [.tmp 2] fun w0 I0 F0 hF=>?_
 repeat first|refine n1 ?_|refine n2 ?_|(first|refine rg 0 [0] [0] [] ?_|refine rg 1 [0] [0,11] [(2,5)] ?_|(refine dr 3 66560 [0] [2] [] [⟨0,1,4096,5⟩,⟨1,4096,8192,5⟩,⟨2,8192,16384,5⟩,⟨4,16384,32768,6⟩,⟨8,32768,65536,0⟩,⟨0,0,131072,4⟩,⟨0,1,262144,5⟩,⟨64,262144,524288,5⟩,⟨128,524288,1048576,5⟩,⟨256,1048576,2097152,6⟩,⟨560,2228224,4194304,0⟩,⟨0,0,8388608,4⟩,⟨0,1,16777216,5⟩,⟨4096,16777216,33554432,5⟩,⟨8192,33554432,67108864,5⟩,⟨16384,67108864,134217728,6⟩,⟨35840,142606336,268435456,0⟩,⟨66576,272695296,536870912,5⟩,⟨131072,536870912,1073741824,4⟩,⟨524287,1073741824,4,5⟩] (.take 0 (.take 1 (.take 2 (.take 3 (.take 6 (.take 7 (.take 8 (.take 12 (.take 13 (.take 14 (.fork (.alt 4 (.take 9 (.take 15 acE)) (.alt 5 (.fork (.alt 4 (.take 9 (.take 15 abX)) (.alt 9 acZ (.alt 11 acS (.alt 15 ac7 (.nil)))))) (.alt 9 (.fork (.alt 4 (.take 15 acE) (.alt 5 acZ (.alt 11 ac2 (.alt 15 adg (.nil)))))) (.alt 11 (.fork (.alt 4 (.take 9 (.take 15 ab2)) (.alt 5 acS (.alt 9 ac2 (.alt 15 ac8 (.nil)))))) (.alt 15 (.fork (.alt 4 (.take 9 acE) (.alt 5 ac7 (.alt 9 adg (.alt 11 ac8 (.nil)))))) (.nil))))))))))))))))) (.run [0,1,2,3,6,7,8,12,13,14] (.both (.run [4,9,15] acd) (.both (.run [5] (.both (.run [4,9,15] aa6) (.both (.run [9] ad6) (.both (.run [11] ad4) (.run [15] acf))))) (.both (.run [9] (.both (.run [4,15] acd) (.both (.run [5] ad6) (.both (.run [11] ad5) (.run [15] acg))))) (.both (.run [11] (.both (.run [4,9,15,5] Vf) (.both (.run [5] ad4) (.both (.run [9] ad5) (.run [15] ace))))) (.run [15] (.both (.run [4,9] acd) (.both (.run [5] acf) (.both (.run [9] acg) (.run [11] ace)))))))))) ?_;simp only[nD,ab7,Vf,aa6,acF,acM,acN,acR,acd,ad4,ad5,ad6,ace,acf,acg])|refine nc ?_);simp[hF,aA,dR]
 apply merged
 ·intro key
  repeat refine n1 ?_
  (repeat' with_reducible refine And.intro ?_ ?_)
  all_goals
   refine(hc).go [(0,[.d,.f 1])] (by simp[hF,aA,dR]) ?_;rintro av X κ ⟨rfl,rfl,rfl⟩;simp[hF,aA,dR]
   (repeat' with_reducible refine And.intro ?_ ?_)
  all_goals try omega
  all_goals
   refine VS.pick [2] [0,4] (by simp[hF]) ?_;simp[hF]
   exact key ()
 (try refine nr ?_);(repeat first|refine aF ?_|refine aG ?_);refine ak.o [2] [0,1] [] ?_;simp[hF,an,aa,ah,aA,dR]
end Go.Proofs.YtbhigdljojlhnaaGreat

namespace Go.Proofs.YtbhigdljojlhnaaGreat
set_option linter.all false
open Go.Vc Go.Proofs
theorem abS{κ α:Type}[DecidableEq κ]{l l':List (κ×α)}(h:l'.Perm l)(hn:(l.map (·.1)).Nodup)(k:κ):bF l' k=bF l k:=by
 cases hg:bF l k with
 | none =>
  rw[pY] at hg ⊢
  exact fun hm=>hg ((h.map _).mem_iff.1 hm)
 | some v=>exact mw ((h.map _).nodup_iff.2 hn) (h.mem_iff.2 (fY hg))
section
variable {s:Mt} {aT:List (Key×Tb)}
theorem afL(h:aR s)(hp:aT.Perm s.aT):aR ⟨s.L,aT,s.fz⟩ :=
 ⟨h.ok,h.pos,(hp.map _).nodup_iff.2 h.nd,fun k t hm=>h.ns k t (hp.mem_iff.1 hm),h.nf⟩
theorem ach(h:aR s)(hp:aT.Perm s.aT)(k:Key)(n:ByteArray):iO ⟨s.L,aT,s.fz⟩ k n=iO s k n:=by
 unfold iO
 rw[abS hp h.nd]
theorem afP{c:Nat}{r:Rt}(h:aR s)(hp:aT.Perm s.aT)(T:TR c s r):TR c ⟨s.L,aT,s.fz⟩ r :=
 ⟨T.lr,fun k n=>by rw[ach h hp];exact T.rows k n,fun t=>T.YD t,T.nd,T.cap⟩
theorem afS(h:aR s)(hp:aT.Perm s.aT)(hN:sk s):sk ⟨s.L,aT,s.fz⟩:=fun k n e he=>hN k n e (by rw[←ach h hp];exact he)
end
end Go.Proofs.YtbhigdljojlhnaaGreat

namespace Go.Proofs.YtbhigdljojlhnaaGreat
set_option linter.all false
open Go.Vc Go.Proofs
set_option maxRecDepth 100000
set_option maxHeartbeats 4000000
attribute [local irreducible] bx jv
theorem Vg(l:List bT)(ex:Bool)(l2:List bT)(U8:Bool):ai Tryz.prog 4 [] (.cons (.cA 8 (wh l) ex) (.cons (.cA 8 (wh l2) U8) .nil)) fun av X κ=>av=aN true∧X=[]∧κ=[]:=by
 have hp:=Lv l ex
 unfold As at hp
 have hok:=(zf (l.take 60)).1
 have hN:=sk.adr (l.take 60)
 generalize jW (l.take 60)=s at *
 refine fb Tryz.func4 Tryz.ntmps4 [.tmp 4] fun w0 I0 F0 hF=>?_
 repeat first|refine n1 ?_|(first|refine rg 0 [0,1] [0,1] [] ?_|refine rg 1 [0,1] [1,5,6] [] ?_);simp[hF,Km,au,dL,aA,dR]
 refine(hp).go [] (by simp[hF,Km]) ?_;rintro av X κ ⟨r,T,rfl,rfl,rfl⟩;simp[hF,Km]
 clear hp
 have p8:=Go.Vd.adB hok
 obtain⟨bb,hbb⟩:=(T.lr.wf hok.ok.wf).base
 have p9:=aa7 hbb ⟨Nat.le_trans T.cap.1 (by omega),Nat.le_trans T.cap.2 (by omega)⟩
 repeat first|refine n1 ?_|refine n2 ?_|(first|refine rg 2 [1,5,6] [1,5,6,15] [] ?_|refine nc ?_);simp[hF]
 refine eP 0 [.d,.f 0] ?_;simp[hF,St.lift,AV.lift,cJ,cK,dV,isNode,Km,au]
 refine eP 0 [.d,.f 1] ?_;simp[hF,St.lift,AV.lift,cJ,cK,dV,isNode,Km,aA]
 refine VS.pick [1,5,6] [1,2,3] (by simp[hF]) ?_;simp[hF]
 refine VS.er 1 [.d,.f 1] (by simp[hF,au]) (by simp[hF,au]) (by simp[hF,au]) ?_;simp[hF,St.er,au]
 apply merged
 ·intro key
  repeat first|(((refine dr 4 0 [1,5,6] [1,5,6,7] [] [⟨0,32,65536,5⟩,⟨1,65536,131072,6⟩,⟨2,131072,262144,0⟩,⟨0,32,524288,5⟩,⟨8,524288,1048576,6⟩,⟨20,1048576,2097152,0⟩,⟨36,2359296,4194304,5⟩,⟨0,0,128,4⟩,⟨255,4194432,0,0⟩] (.take 0 (.take 1 (.take 3 (.fork (.alt 2 (.take 4 (.fork (.alt 5 (.take 6 (.fork (.alt 7 (.fork (.alt 8 (.done) (.nil))) (.nil)))) (.alt 7 (.fork (.alt 5 (.take 6 (.fork (.alt 8 (.done) (.nil)))) (.nil))) (.nil))))) (.alt 4 (.fork (.alt 2 (.fork (.alt 5 (.take 6 (.fork (.alt 7 (.fork (.alt 8 (.done) (.nil))) (.nil)))) (.alt 7 (.fork (.alt 5 (.take 6 (.fork (.alt 8 (.done) (.nil)))) (.nil))) (.nil)))) (.alt 7 (.fork (.alt 2 (.fork (.alt 5 (.take 6 (.fork (.alt 8 (.done) (.nil)))) (.nil))) (.nil))) (.nil)))) (.alt 7 (.fork (.alt 2 (.take 4 (.fork (.alt 5 (.take 6 (.fork (.alt 8 (.done) (.nil)))) (.nil)))) (.alt 4 (.fork (.alt 2 (.fork (.alt 5 (.take 6 (.fork (.alt 8 (.done) (.nil)))) (.nil))) (.nil))) (.nil)))) (.nil)))))))) (.run [0,1,3] (.both (.run [2,4] (.both (.run [5,6,7,8] (.done)) (.run [7,5,6,8] (.done)))) (.both (.run [4] (.both (.run [2] (.both (.run [5,6,7,8] (.done)) (.run [7,5,6,8] (.done)))) (.run [7,2,5,6,8] (.done)))) (.run [7] (.both (.run [2,4,5,6,8] (.done)) (.run [4,2,5,6,8] (.done))))))) ?_;simp only[nD]));simp[hF,mM])
  (repeat' with_reducible refine And.intro ?_ ?_)
  all_goals
   refine(p8).go [(1,[])] (by simp[hF,au]) ?_;rintro av X κ ⟨aT,hp,rfl,rfl,rfl⟩;simp[hF,au]
   (repeat' with_reducible refine And.intro ?_ ?_)
  all_goals
   refine(p9).go [(2,[])] (by simp[hF,aA]) ?_;rintro av X κ ⟨rfl,rfl,rfl⟩;simp[hF,aA]
  all_goals first
   | (refine VS.pick [1,5,6,7] [0,1,2,5] (by simp[hF]) ?_;simp[hF];revert hp;revert aT;exact key ())
   | (refine VS.pick [1,5,6,7] [0,1,2,4] (by simp[hF]) ?_;simp[hF];revert hp;revert aT;exact key ())
   | (refine VS.pick [1,5,6,7] [0,1,2,3] (by simp[hF]) ?_;simp[hF];revert hp;revert aT;exact key ())
 intro aT hp
 have lF:=afL hok hp
 have T2:=afP hok hp T
 have hN2:=afS hok hp hN
 have afX:=bX true ⟨s.L,aT,s.fz⟩
 have YK:=Wn
 refine eP 3 [.d,.f 0] ?_;simp[hF,St.lift,AV.lift,cJ,cK,dV,isNode,au]
 refine eP 3 [.d,.f 1] ?_;simp[hF,St.lift,AV.lift,cJ,cK,dV,isNode,aA]
 refine VS.pick [1,5,6,7] [0,1,2,3,4,5] (by simp[hF]) ?_;simp[hF]
 repeat first|refine n1 ?_|refine rg 5 [1,5,6,7] [1,5,6,7,31] [(3,26)] ?_;simp[hF,mM]
 refine(afX).go [(4,[])] (by simp[hF,au]) ?_;rintro av X κ ⟨rfl,rfl,rfl⟩;simp[hF,au]
 repeat first|refine n1 ?_|refine n2 ?_|refine n3 ?_|(first|refine rg 7 [1,5,6,7] [1,5,6,7,8] [] ?_|refine nc ?_);simp[hF]
 refine VS.rounds (fun m st=>∃(i:Nat) (s2:Mt) (r2:Rt),i+m=60∧i≤l2.length∧aR s2∧TR (100+i) s2 r2∧sk s2 ∧
  st=⟨[(1,.cA 8 (wh l2) U8),(5,.ptr 0 [.d]),(6,aN true),(7,.ptr 3 [.d]),(8,ag i)],[mM,au false s,aA r,mM,au true s2,aA r2],
   [],[(3,[.d,.f 1],.ptr 5 [.d]),(3,[.d,.f 0],.ptr 4 [.d]),(0,[.d,.f 0],.ptr 1 [.d]),(0,[.d,.f 1],.ptr 2 [.d])]⟩) ⟨60,0,⟨s.L,aT,s.fz⟩,r,by omega,by omega,lF,T2,hN2,by simp[mM,au,aA]⟩ ?_
 clear lF T2 hN2 afX
 rintro m st ⟨i,s2,r2,hi,hil,lF,T2,hN2,rfl⟩
 by_cases hlt:i<l2.length
 ·have hn:=Dj hlt
  by_cases h60:i<60
  ·have Av:(i:Int)<60:=by omega
   have tj:=Wg lF T2 (by omega) l2[i]
   have ahk:=tP lF l2[i]
   have hN3:=hN2.step lF l2[i]
   unfold fc at tj
   generalize jV s2 l2[i]=s3 at *
   generalize l2[i]=d at *
   repeat first|refine n1 ?_|refine n2 ?_|refine n3 ?_|(first|refine rg 8 [1,5,6,7,8] [1,5,6,7,8,42] [(4,36),(8,40)] ?_|(refine dr 10 0 [1,5,7,8] [1,5,6,7,8] [] [⟨0,128,35184372088832,6⟩,⟨0,2,70368744177664,5⟩,⟨0,256,140737488355328,5⟩,⟨6,211106232532992,281474976710656,5⟩,⟨8,281474976710656,562949953421312,6⟩,⟨17,598134325510144,1125899906842624,0⟩,⟨63,1125899906842624,64,5⟩] (.take 0 (.take 1 (.take 2 (.take 3 (.take 4 (.fork (.alt 5 (.take 6 (.done)) (.nil)))))))) (.run [0,1,2,3,4,5,6] (.done)) ?_;simp only[nD])|refine nc ?_);simp[hF,hlt,Av,hn,YE,mM]
   refine(tj).go [(4,[]),(5,[])] (by simp[hF,mM,au,aA]) ?_;rintro av X κ ⟨r3,hT3,rfl,rfl,rfl⟩;simp[hF,mM,au,aA]
   repeat first|refine n4 ?_|refine n5 ?_|refine n6 ?_|refine rg 9 [1,5,6,7,8] [1,5,6,7,8] [] ?_;simp[hF]
   refine aO.of [1,5,6,7,8] [0,1,2,3,4,5] (m-1) (by omega) (by simp[hF]) ?_
   refine⟨i+1,s3,r3,by omega,by omega,ahk,hT3,hN3,?_⟩
   simp[mM,au,aA]
   exact IntWalk.i64_in _ (by omega)
  ·have Av:¬(i:Int)<60:=by omega
   have ad7:=QY lF (V2 lF T2 (by omega) hN2) T2 (by omega)
   have ad8:=QY hok (V2 hok T (by omega) hN) T (by omega)
   repeat first|refine n1 ?_|refine n7 ?_|(first|refine rg 8 [1,5,6,7,8] [1,5,6,7,8,42] [(4,36),(8,40)] ?_|refine nc ?_);simp[hF,hlt,Av,mM]
   refine VS.pick [5,6,7] [0,1,2,3,4,5] (by simp[hF]) ?_;simp[hF]
   refine VS.er 4 [.d,.f 1] (by simp[hF,au]) (by simp[hF,au]) (by simp[hF,au]) ?_;simp[hF,St.er,au]
   repeat first|refine rg 11 [5,6,7] [4] [(1,52),(5,56),(9,60)] ?_;simp[hF,mM]
   refine(ad7).go [(4,[]),(5,[])] (by simp[hF,au,aA]) ?_;rintro av X κ ⟨rfl,rfl,rfl⟩;simp[hF,au,aA]
   refine(ad8).go [(1,[]),(2,[])] (by simp[hF,au,aA]) ?_;rintro av X κ ⟨rfl,rfl,rfl⟩;simp[hF,au,aA]
   refine(YK).go [] (by simp[hF]) ?_;rintro av X κ ⟨rfl,rfl,rfl⟩;simp[hF]
   repeat refine n1 ?_
   (try refine nr ?_);(repeat first|refine aF ?_|refine aG ?_);refine ak.o [4] [] [] ?_;simp[hF,an,aa,ah]
 ·have ad7:=QY lF (V2 lF T2 (by omega) hN2) T2 (by omega)
  have ad8:=QY hok (V2 hok T (by omega) hN) T (by omega)
  repeat first|refine n1 ?_|refine n7 ?_|(first|refine rg 8 [1,5,6,7,8] [1,5,6,7,8,42] [(4,36),(8,40)] ?_|refine nc ?_);simp[hF,hlt,mM]
  refine VS.pick [5,6,7] [0,1,2,3,4,5] (by simp[hF]) ?_;simp[hF]
  refine VS.er 4 [.d,.f 1] (by simp[hF,au]) (by simp[hF,au]) (by simp[hF,au]) ?_;simp[hF,St.er,au]
  repeat first|refine rg 11 [5,6,7] [4] [(1,52),(5,56),(9,60)] ?_;simp[hF,mM]
  refine(ad7).go [(4,[]),(5,[])] (by simp[hF,au,aA]) ?_;rintro av X κ ⟨rfl,rfl,rfl⟩;simp[hF,au,aA]
  refine(ad8).go [(1,[]),(2,[])] (by simp[hF,au,aA]) ?_;rintro av X κ ⟨rfl,rfl,rfl⟩;simp[hF,au,aA]
  refine(YK).go [] (by simp[hF]) ?_;rintro av X κ ⟨rfl,rfl,rfl⟩;simp[hF]
  repeat refine n1 ?_
  (try refine nr ?_);(repeat first|refine aF ?_|refine aG ?_);refine ak.o [4] [] [] ?_;simp[hF,an,aa,ah]
end Go.Proofs.YtbhigdljojlhnaaGreat

namespace Go.Proofs.YtbhigdljojlhnaaGreat.methodCopies
set_option linter.all false
open Go.Vc Go.ChangeShapes Go.WideShapes Go.ChangeAt Go.RowKit
theorem own:ownKnob Tryz.prog.godebug=none:=by kernel_rfl
theorem laid:laidOutB Tryz.prog=true:=by kernel_rfl
set_option maxRecDepth 100000 in
theorem lifted(os:Os)(started:os.Started)(H:Type)(enc:TypeId×Value→H) :
  ReturnsInHanded {} Tryz.checked os 4 .any (Rows.methodCopiesSpec.pre6 enc Tryz.prog Tryz.f4 Rows.methodCopiesRow.domain false) (Rows.methodCopiesSpec.post enc Tryz.prog Tryz.f4 false true false false):=by
 refine returnsInHanded_of_change (C:=Tryz.checked) own started (by kernel_rfl) Tryz.func4
  (ChangeSpec.witness6 (enc:=enc) (C:=Tryz.checked) false ⟨#[],#[.slice none 0 0,.slice none 0 0],[]⟩ 8 (by kernel_rfl) (by kernel_rfl) (by kernel_rfl) (by kernel_rfl)) ?_
 intro W base args ds gs before YQ hW aiq _
 have hval:∀(j:Nat) t v,Tryz.f4.params[j]? = some t→args[j]? = some v→Value.okWide Tryz.prog W .any base t v:=YQ
 have hW':=hW
 obtain⟨p,q,hA0,hV,rfl,hfz,hnd⟩:=hW
 have hA:DataW.TrodAll enc Tryz.prog W 0 (fun _=>true) true Tryz.f4.params.toList args.toList ds p:=hA0
 rw[Tryz.params4] at hA hval
 obtain⟨v0,vs0,d0,ds0,p0,q0,af1,rfl,rfl,h0,r0⟩:=trodAll_cons hA
 obtain⟨v1,yc,d1,ds1,p1,q1,aag,rfl,rfl,h1,r1⟩:=trodAll_cons r0
 obtain⟨rfl,rfl,rfl⟩:=trodAll_nil r1
 subst aag
 obtain rfl:args=#[v0,v1]:=by cases args;simp_all
 obtain⟨rfl,rfl⟩:=trodVars_none hV
 obtain⟨a0,adY,hr0⟩:=Ru (hval 0 22 v0 rfl rfl) h0
 obtain⟨a1,aik,VG⟩:=Ru (hval 1 22 v1 rfl rfl) h1
 clear hA0 YQ
 have adZ:Calls Tryz.prog 4 #[v0,v1] W fun e w'=>e=.returned (.bool true)∧Below W.heap.size W w' :=
  ai.law ((ai.mono (Vg a0 false a1 false) fun _ _ _ h=>h.1)) (vs:=[v0,v1]) (I:=GN W) (fun _ h=>h) ⟨v0,_,rfl,hr0,⟨v1,_,rfl,VG,rfl⟩⟩
 refine adZ.mono fun e W' ⟨he,bel⟩=>?_
 subst he
 exact⟨_,rfl,_,_,_,[],_,[],hW',trodAll_mk1 (shut_bool Tryz.underlying4 _),(trodAll_cons_mk (Below.trod laid (by kernel_rfl) (of_decide_eq_true (by kernel_rfl)) h0 bel fun x hx=>hW'.lt x (by simp[hx])) (trodAll_cons_mk (Below.trod laid (by kernel_rfl) (of_decide_eq_true (by kernel_rfl)) h1 bel fun x hx=>hW'.lt x (by simp[hx])) trodAll_mk0)),rfl,bel.frame _,fun h=>by cases h⟩
theorem af2:Rows.methodCopiesRow.holds Tryz.pinned (OpenSpec.ofChange Rows.methodCopiesSpec) :=
 OpenClaim.holds_of_wide 4 Tryz.f4 rfl rfl rfl rfl rfl rfl rfl ⟨rfl,rfl,rfl,rfl,rfl⟩ rfl rfl rfl rfl rfl (by kernel_rfl) Tryz.func4 (by kernel_rfl)
  (of_decide_eq_true (by kernel_rfl)) (by unfold Func.isWrapper;first|(rw[if_pos (by decide +kernel)];kernel_rfl)|(rw[if_neg (by decide +kernel)];exact⟨rfl,rfl⟩))
  (fun os started H enc _=>lifted os started H enc)
theorem proved:Rows.MethodCopiesSaid :=
 af2
end Go.Proofs.YtbhigdljojlhnaaGreat.methodCopies
