/- Appends that make a new root. -/
import Derived.Test.YtbhigdljojlhnaaGreatK1
import Derived.MapKept
import Derived.IntWalk
import Derived.Laws.Append
import Derived.Laws.AppendOwn
import Derived.ChangeMaps4
import Derived.Tactics
namespace Go.Vc
set_option linter.all false
open T (hdr blk)
theorem Stp.grow {c:Cx} {X:List D} {κ:List (Nat×Path)} {w:World} {I:Nat→Prop} {F:List G} (hi:Inv c X κ w I F):Stp w w I I F (F ++ [.nil]) [] c.F0.length where
 holds:=fun g hg=>by
  rcases List.mem_append.1 hg with h | h
  ·exact hi.holds g h
  ·simp only [List.mem_singleton] at h;subst h;trivial
 nodup:=by simpa [own,T.owned] using hi.nodup
 apart:=fun b hb=>hi.apart b (by simpa [own,T.owned] using hb)
 mine:=fun b hb=>.inl (by simpa [own,T.owned] using hb)
 lt:=fun b hb=>hi.lt b (by simpa [own,T.owned] using hb)
 ilt:=hi.ilt
 heap:=fun _ _ _=>rfl
 size:=Nat.le_refl _
 os:=rfl
 tape:=rfl
 output:=rfl
 imono:=fun _ h=>h
 inew:=fun _ h=>.inl h
 keep:=fun k g hg=>⟨g,by rw [List.getElem?_append_left (List.getElem?_eq_some_iff.1 hg).1];exact hg,fun _=>rfl,fun _ _=>rfl,fun _ _=>rfl,fun _ _ h _=>h⟩
theorem KeepR.grow {nb:Nat} {F F1:List G} {κ:List (Nat×Path)} (hl:F1.length = F.length) (h:KeepR nb F F1 κ):KeepR nb (F ++ [.nil]) (F1 ++ [.nil]) κ:=by
 refine ⟨h.1,fun k g hg=>?_⟩
 rcases Nat.lt_or_ge k F.length with hk | hk
 ·rw [List.getElem?_append_left hk] at hg
  obtain ⟨g',h1,h2⟩:=h.2 k g hg
  exact ⟨g',by rw [List.getElem?_append_left (by omega)];exact h1,h2⟩
 ·rw [List.getElem?_append_right hk] at hg
  refine ⟨g,by rw [List.getElem?_append_right (by omega),hl];exact hg,.inl rfl⟩
theorem own_snoc_nil (F:List G):own (F ++ [.nil]) = own F:=by simp [own,T.owned]
theorem Stp.ungrow {w w':World} {I I':Nat→Prop} {F F2:List G} {κ:List (Nat×Path)} {nb:Nat} (s:Stp w w' I I' (F ++ [.nil]) F2 (κ ++ [(F.length,[])]) nb):Stp w w' I I' F F2 κ nb :=
 { s with
  mine:=fun b hb=>by have:=s.mine b hb;rwa [own_snoc_nil] at this
  heap:=fun b hb hn=>s.heap b hb (by rw [own_snoc_nil];exact hn)
  inew:=fun b hb=>by have:=s.inew b hb;rwa [own_snoc_nil] at this
  keep:=fun k g hg=>by
   have hk:=(List.getElem?_eq_some_iff.1 hg).1
   have hd:∀ q sb,dead (κ ++ [(F.length,[])]) k q sb = dead κ k q sb:=fun q sb=>by
    have:(k == F.length) = false:=by simp;omega
    rw [dead_append,show dead [(F.length,[])] k q sb = false by simp [dead,this],Bool.or_false]
   have:=s.keep k g (by rw [List.getElem?_append_left hk];exact hg)
   simpa only [hd] using this }
theorem AV.src_len {nb z:Nat} {X:List D} {av:AV} {r:Sc} (h:av.src nb z X = some r):r.X.length = X.length:=by
 cases av with
 | nils _=>simp only [AV.src,Option.some.injEq] at h;subst h;rfl
 | imm _ _ _=>simp only [AV.src] at h;split at h <;> simp at h;subst h;rfl
 | sub k' q' lo n ex =>
  simp only [AV.src] at h
  split at h
  ·split at h
   ·rename_i s' _ _
    cases hfr:(s'.mid lo n).free with
    | true=>rw [hfr] at h;simp only [cond_true,Option.some.injEq] at h;subst h;rfl
    | false =>
     rw [hfr] at h;simp only [cond_false] at h
     cases q' with
     | cons _ _=>cases h
     | nil =>
      simp only at h
      cases hb:Nat.ble nb k' with
      | false=>rw [hb] at h;cases h
      | true=>rw [hb] at h;simp only [cond_true,Option.some.injEq] at h;subst h;simp
   ·cases h
  ·cases h
 | _=>simp [AV.src] at h
theorem AV.kill_nil' (e:Env):e.kill [] = e:=by
 unfold Env.kill
 induction e with
 | nil=>rfl
 | cons x e ih=>simp only [List.map_cons,ih];congr 1;cases x;simp [AV.kill,AV.dies_nil]
def AV.tight:AV→Nat→Bool
 | .nils _,_=>true
 | .imm _ _ ex,m=>ex && Nat.blt 0 m
 | .sub _ _ _ _ ex,m=>ex && Nat.blt 0 m
 | _,_=>false
def appFresh (nb z by_:Nat) (st:St) (b x:AV) (K:AV→St→Prop):Prop :=
 match b.src nb z st.X,x.src nb z st.X with
 | some rb,some r=>rb.u.free = true∧b.tight r.m = true∧fits rb.m r.m by_ ∧
    K (.sub r.X.length [] 0 (rb.m + r.m) false) { st with env:=st.env.kill r.κ,X:=r.X ++ [.sl true () z (rb.u.app r.u)],pl:=plKill r.κ st.pl }
 | _,_=>False
theorem Rel.appFresh {c:Cx} {τ:Tab} (hτ:Tab.Ok c.P τ) {st:St} {a:Act} {w:World} {I:Nat→Prop} {F:List G} (hd:Dfs c.w0.heap.size a.defers w) (hs:a.tmps.size = c.nt) (hi:Inv c st.X st.κ w I F)
  (he:EnvOk st.env a w I F) (hp:PlOk st.pl w I F) {t ty:TypeId} {e z by_:Nat} {zv:Value} (ht:(τ t).sl = some (e,z,by_,zv)) {b x:AV} {v vx:Value}
  (hv:Rl w.heap I F b true [v]) (hx:Rl w.heap I F x true [vx]) {K:AV→St→Prop} (hK:Vc.appFresh c.F0.length z by_ st b x K) :
  ∃ av st' v' w',K av st'∧(Builtin.append_ #[t,t] ty #[v,vx]).run c.P w = .ok v' w'∧RelR c st' av v' a w':=by
 unfold Vc.appFresh at hK
 split at hK
 case h_2=>exact hK.elim
 rename_i rb r hrb hr
 obtain ⟨hfree,htight,⟨hf1,hf2⟩,hK⟩:=hK
 rw [←hi.erase] at hr hrb
 obtain ⟨F1,x',o2,A2,c2,s1,s2,s3,s4,s5,s6,s7⟩:=src_ok hi.holds hx hr
 have hr':x.src c.F0.length z st.X = some r:=by rw [←hi.erase];exact hr
 obtain ⟨own1,A,cap,s,q1,q2,q3,q4,q5⟩:∃ own1 A cap,∃ s:G,s.erase = rb.u∧v = .slice A rb.m cap∧T.Holds w.heap I (.sl own1 v z s)∧s.free = true∧(rb.m + r.m≤cap→own1 = true∧A = none):=by
  have key:∀ o A cap (s:G),s.erase = rb.u→v = .slice A rb.m cap→T.Holds w.heap I (.sl o v z s)→(cap = rb.m∧0 < r.m) →
    ∃ own1 A cap,∃ s:G,s.erase = rb.u∧v = .slice A rb.m cap∧T.Holds w.heap I (.sl own1 v z s)∧s.free = true∧(rb.m + r.m≤cap→own1 = true∧A = none) :=
   fun o A cap s e1 e2 e3 e4=>⟨o,A,cap,s,e1,e2,e3,by rw [←T.erase_free,e1];exact hfree,fun h=>by omega⟩
  obtain ⟨_,sb,ob,Ab,cb,_,t2,t3,t4,_⟩:=src_ok hi.holds hv hrb
  cases b with
  | nils z0 =>
   simp only [AV.src,Option.some.injEq] at hrb
   subst hrb
   cases hv
   exact ⟨true,none,0,.nil,rfl,rfl,⟨trivial,trivial,(fun h=>by cases h),rfl,rfl,rfl⟩,rfl,fun _=>⟨rfl,rfl⟩⟩
  | imm z' s' ex =>
   simp only [AV.tight,Bool.and_eq_true] at htight
   obtain ⟨v',h1,s'',h2,h3,h4⟩:=hv
   cases h1
   exact key ob Ab cb sb t2 t3 t4 ⟨h4 htight.1 _ _ _ t3,Nat.le_of_ble_eq_true htight.2⟩
  | sub k q lo n ex =>
   simp only [AV.tight,Bool.and_eq_true] at htight
   obtain ⟨own0,a0,z0,len0,v',hd',h1,A',c',h2,h3,h4,h4',h5,_⟩:=hv
   cases h1
   rw [t3] at h2
   injection h2 with h6 h7 h8
   exact key ob Ab cb sb t2 t3 t4 ⟨by rw [h8,h5 htight.1,h7],Nat.le_of_ble_eq_true htight.2⟩
  | _=>simp [AV.tight] at htight
 obtain ⟨u1,inf,u2,u3,u4,u5,u6⟩:=(hτ t).sl _ _ _ _ ht
 subst q2
 subst s3
 rw [←u4] at q3 s4
 have hF1:F1.length = F.length:=by have:=congrArg List.length s1;have h2:=congrArg List.length hi.erase;simp at this h2;rw [this];simpa using AV.src_len hr
 have hso:s.owned = []:=T.owned_free q4
 have hlow:∀ b∈s.owned ++ x'.owned,b < w.heap.size:=fun b hb=>by
  rw [hso,List.nil_append] at hb
  have h6:=s6 b
  exact hi.lt b (by rw [mem_of_count] at *;omega)
 obtain ⟨v',w',r1,r2,r3,r4,r5,r6,⟨A',c',r7⟩,r8,r9,r10⟩:=append_node (P:=c.P) w (ty:=ty) u1 u2 u3 q3 s4 (by rw [u6,u4]) hi.ilt
  (fun h1 _ a ha=>by have:=(q5 h1).2;rw [ha] at this;cases this) hlow (by rw [u5];exact hf1) hf2
 have hnode:=r10 fun h=>(q5 h).1
 rw [u4] at hnode
 subst r7
 have hcnt:(T.sl true (.slice A' (rb.m + r.m) c') z (s.app x'):G).owned = blk (.slice A' (rb.m + r.m) c') ++ x'.owned:=by
  simp only [T.owned];rw [T.owned_app q3.2.1,hso];rfl
 have G0:=Stp.grow hi
 have hi':=hi.step G0
 have he':=he.step hi G0
 have hp':=hp.step hi G0
 have hgn:(F1 ++ [T.nil])[F1.length]? = some (T.nil:G):=by simp
 have hnbF:c.F0.length≤F.length:=by
  rcases Nat.lt_or_ge F.length c.F0.length with h | h
  ·obtain ⟨g1,hg1,_⟩:=hi.base F.length _ (List.getElem?_eq_getElem h)
   simp at hg1
  ·exact h
 have S:=Stp.setRoot (κ:=st.κ) hi' (KeepR.grow hF1 s7) (fun g hg=>by
   rcases List.mem_append.1 hg with h | h
   ·exact s5 g h
   ·simp only [List.mem_singleton] at h;subst h;trivial) (ext:=x'.owned) (fun b=>by rw [own_snoc_nil,own_snoc_nil];exact s6 b) hgn (by rw [hF1];exact hnbF) hnode
  (fun b hb=>by
   rw [hcnt]
   have hz:(blk (.slice A' (rb.m + r.m) c')).count b = 0:=by
    by_cases hle:rb.m + r.m≤cap
    ·obtain ⟨h10,_⟩:=r9 hle
     cases h10
     rw [(q5 hle).2];rfl
    ·obtain ⟨cc,h10,_⟩:=r8 (by omega)
     cases h10
     have h13:=T.blk_some ⟨w.heap.size,0,none⟩ (rb.m + r.m) c' b
     have:([w.heap.size]:List Nat).count b = 0:=List.count_eq_zero.2 (by simp;omega)
     simp only at h13;omega
   simp only [List.count_append,T.owned,List.count_nil];omega)
  (fun b hb=>by
   rw [hcnt]
   have h2:x'.owned.count b = 0:=List.count_eq_zero.2 fun hm=>by have:=hlow b (by simp [hm]);omega
   have:(blk (.slice A' (rb.m + r.m) c')).count b≤1:=by
    cases A' with
    | none=>simp [blk]
    | some y=>exact Nat.le_trans (T.blk_some y _ _ b) List.count_le_length
   simp only [List.count_append];omega)
  (fun b hb=>by
   rw [hcnt] at hb
   rcases List.mem_append.1 hb with hb | hb
   ·by_cases hle:rb.m + r.m≤cap
    ·obtain ⟨h10,h11⟩:=r9 hle
     cases h10
     rw [(q5 hle).2] at hb
     simp [blk] at hb
    ·obtain ⟨cc,h10,h11⟩:=r8 (by omega)
     cases h10
     have hb:=(T.mem_blk hb).1
     simp only at hb
     omega
   ·have:=hlow b (by simp [hb]);omega)
  (fun b hb _=>r6 b hb fun a ha hle _ e'=>by have:=(q5 hle).2;rw [ha] at this;cases this)
  r5 r2 r3 r4
 have hsubr:SubRel (.slice A' (rb.m + r.m) c') z (s.app x').len 0 (rb.m + r.m) false (.slice A' (rb.m + r.m) c'):=by
  have hl:=Holds_sl_nil hnode
  have hl1:=(slice_cells rfl q3).1
  have hl2:=(slice_cells rfl s4).1
  rw [T.len_app,←hl1,←hl2] at hl ⊢
  exact hl
 refine ⟨_,_,_,w',hK,r1,?_⟩
 have hXl:r.X.length = F1.length:=by rw [←s1];simp
 have hset:(F1 ++ [T.nil]).set F1.length (T.sl true (.slice A' (rb.m + r.m) c') z (s.app x')) = F1 ++ [T.sl true (.slice A' (rb.m + r.m) c') z (s.app x')]:=by simp
 rw [hset,hF1] at S
 have S:=S.ungrow
 rw [hXl]
 have h12:(F1 ++ [T.sl true (.slice A' (rb.m + r.m) c') z (s.app x')]).map T.erase = r.X ++ [.sl true () z (rb.u.app r.u)]:=by
  rw [List.map_append,s1]
  simp only [List.map_cons,List.map_nil,T.erase,T.erase_app,s2,q1]
 have hi2:=hi.step S
 rw [h12] at hi2
 exact ⟨hd.step hi S,hs,I,_,hi2.unkill fun k' q' s' hk'=>src_bases hr hk',he.step hi S,hp.step hi S,true,.slice A' (rb.m + r.m) c',z,_,_,by simp [hdrF,T.at_,hdr],rfl,hsubr⟩
def marked (κ:List (Nat×Path)) (j:Nat):Bool:=κ.any fun e=>Nat.beq e.1 j && (match e.2 with | [.d,.d,.d]=>true | _=>false)
def AV.keepS (j n:Nat) (κ:List (Nat×Path)):AV→AV
 | .sub j' [] 0 n' ex=>bif Nat.beq j' j && Nat.beq n' n then .sub j' [] 0 n' ex else (AV.sub j' [] 0 n' ex).kill κ
 | av=>av.kill κ
def Env.keepS (j n:Nat) (κ:List (Nat×Path)) (e:Env):Env:=e.map fun (d,a)=>(d,a.keepS j n κ)
theorem look_keepS (j n:Nat) (κ:List (Nat×Path)) (e:Env) (t:Nat):look (e.keepS j n κ) t = (look e t).keepS j n κ:=by
 induction e with
 | nil=>rfl
 | cons x e ih =>
  obtain ⟨d,a⟩:=x
  simp only [Env.keepS,List.map_cons,look]
  split
  ·rfl
  ·exact ih
theorem dead_filterJ (κ:List (Nat×Path)) (j k:Nat) (q:Path) (s:Bool) (h:k≠j):dead (κ.filter fun e=>!Nat.beq e.1 j) k q s = dead κ k q s:=by
 induction κ with
 | nil=>rfl
 | cons e l ih =>
  rw [List.filter_cons]
  cases hb:Nat.beq e.1 j with
  | false=>simp only [Bool.not_false,if_true,dead,List.any_cons] at ih ⊢;rw [ih]
  | true =>
   have hne:(k == e.1) = false:=by
    have:=Nat.eq_of_beq_eq_true hb
    simp;omega
   simp only [Bool.not_true,Bool.false_eq_true,if_false,dead,List.any_cons] at ih ⊢
   rw [ih,hne];rfl
def appSplit (nb z by_:Nat) (st:St) (j n:Nat) (x:AV) (K:AV→St→Prop):Prop :=
 appFresh nb z by_ st (.sub j [] 0 n true) x K ∧
 match x.src nb z st.X with
 | none=>False
 | some r=>r.m = 1∧match r.X[j]? with
  | some (.sl true () z' s)=>z' = z∧Nat.ble nb j = true∧fits n r.m by_ ∧
    K (.sub j [] 0 (n + r.m) false) { env:=st.env.keepS j n (r.κ ++ [(j,[])]),X:=r.X.set j (.sl true () z ((s.mid 0 n).app r.u)),κ:=st.κ.filter fun e=>!Nat.beq e.1 j,pl:=plKill (r.κ ++ [(j,[])]) st.pl }
  | _=>False
theorem append_rows {P:Program} (w:World) {I:Nat→Prop} {t ty e:TypeId} {i:TypeInfo} {zv:Value} (ht:P.underlying t = some (.slice e)) (hi:P.info? e = some i) (hz:i.zero = some zv)
  {own1 own2:Bool} {A A2:Option Addr} {n cap m c2:Nat} {s x:G} (H1:T.Holds w.heap I (.sl own1 (.slice A n cap) i.size s)) (H2:T.Holds w.heap I (.sl own2 (.slice A2 m c2) i.size x))
  (hI:n + m≤cap→0 < m→∀ a,A = some a→¬ I a.block) (hb:(n + m) * i.bytes≤140737488355328) (h63:n + m≤2 ^ 63 - 1) {v':Value} {w':World}
  (hrun:(Builtin.append_ #[t,t] ty #[.slice A n cap,.slice A2 m c2]).run P w = .ok v' w') (hle:n + m≤cap) (h0:0 < m) :
  ∃ a row row' e',A = some a∧w.heap[a.block]? = some (.cells row e' (0,0))∧w'.heap[a.block]? = some (.cells row' e' (0,0))∧row'.size = row.size:=by
 obtain ⟨a1,a2,a3,a4,a5,a6,a7,a8⟩:=slice_cells rfl H1
 obtain ⟨b1,b2,b3,b4,b5,b6,b7,b8⟩:=slice_cells rfl H2
 obtain ⟨v'',w'',r1,r2,r3,r4,r5⟩:=run_append w (ty:=ty) ht hi hz A n cap A2 m c2 a2 a4 (fun h=>by have:=b4 h;omega) (fun h=>a5 (.inr h)) s.cells x.cells a6 a7 b6 b7 H2.1.one
  (fun a ha h0 hle=>by obtain ⟨row,e',fr,h1,hf,h2,_⟩:=a8 a ha (by omega);obtain rfl:=hf (hI hle h0 a ha);exact ⟨row,e',h1,h2⟩) hb h63
 rw [hrun] at r1
 cases r1
 rcases r5 with ⟨c1,c2',c3,c4⟩ | ⟨c1,_⟩
 ·rcases c4 with ⟨hm,_⟩ | ⟨a,row,e',hA,hr,ho,row',h1,h2,_,_⟩
  ·omega
  ·exact ⟨a,row,row',e',hA,hr,h1,h2⟩
 ·omega
theorem Rel.appSplit {c:Cx} {τ:Tab} (hτ:Tab.Ok c.P τ) {st:St} {a:Act} {w:World} {I:Nat→Prop} {F:List G} (hd:Dfs c.w0.heap.size a.defers w) (hs:a.tmps.size = c.nt) (hi:Inv c st.X st.κ w I F)
  (he:EnvOk st.env a w I F) (hp:PlOk st.pl w I F) {t ty:TypeId} {e z by_:Nat} {zv:Value} (ht:(τ t).sl = some (e,z,by_,zv)) {j n:Nat} {x:AV} {v vx:Value}
  (hv:Rl w.heap I F (.sub j [] 0 n false) true [v]) (hx:Rl w.heap I F x true [vx]) {K:AV→St→Prop} (hK:Vc.appSplit c.F0.length z by_ st j n x K) :
  ∃ av st' v' w',K av st'∧(Builtin.append_ #[t,t] ty #[v,vx]).run c.P w = .ok v' w'∧RelR c st' av v' a w':=by
 obtain ⟨hK1,hK2⟩:=hK
 obtain ⟨own0,a1,z1,len1,v',hdd,h1,hsub⟩:=id hv
 cases h1
 obtain ⟨A,cap,rfl,q1,q2,q3,q4,q5⟩:=id hsub
 by_cases hcap:cap = n
 ·exact Rel.appFresh hτ hd hs hi he hp ht (b:=.sub j [] 0 n true) ⟨own0,a1,z1,len1,_,hdd,rfl,A,cap,rfl,q1,q2,q3,fun _=>hcap,q5⟩ hx hK1
 cases hr:x.src c.F0.length z st.X with
 | none=>rw [hr] at hK2;exact hK2.elim
 | some r =>
  rw [hr] at hK2
  simp only at hK2
  obtain ⟨hm1,hK⟩:=hK2
  rw [←hi.erase] at hr
  obtain ⟨F1,x',o2,A2,c2,s1,s2,s3,s4,s5,s6,s7⟩:=src_ok hi.holds hx hr
  split at hK
  ·rename_i z' s0 hj
   obtain ⟨rfl,hjb,⟨hf1,hf2⟩,hK⟩:=hK
   have hjb:=Nat.le_of_ble_eq_true hjb
   obtain ⟨u1,inf,u2,u3,u4,u5,u6⟩:=(hτ t).sl _ _ _ _ ht
   rw [←s1,List.getElem?_map] at hj
   cases hg:F1[j]? with
   | none=>rw [hg] at hj;cases hj
   | some g =>
    rw [hg] at hj
    simp only [Option.map_some,Option.some.injEq] at hj
    cases g with
    | sl o a0 z0 s =>
     simp only [T.erase,T.sl.injEq] at hj
     obtain ⟨rfl,_,rfl,rfl⟩:=hj
     have hsame:F[j]? = some (.sl true a0 z0 s):=by
      unfold hdrF at hdd
      cases hgf:F[j]? with
      | none=>rw [hgf] at hdd;simp at hdd
      | some f =>
       obtain ⟨f1,h2,h3⟩:=s7.2 j f hgf
       rw [hg] at h2
       cases h2
       rcases h3 with h3 | ⟨⟨a',h3⟩,_⟩
       ·rw [←h3]
       ·cases h3
     simp only [hdrF,hsame,Option.bind_some,T.at_,hdr,Option.some.injEq,Prod.mk.injEq] at hdd
     obtain ⟨rfl,rfl,rfl,rfl⟩:=hdd
     have hHj:=hi.holds _ (List.mem_of_getElem? hsame)
     obtain ⟨hst,hln⟩:=T.Holds.stretch hHj hsub
     obtain ⟨x0,len0,cap0,rfl⟩:∃ x0 len0 cap0,a0 = .slice (some x0) len0 cap0:=by
      split at q5
      ·omega
      ·exact ⟨_,_,_,rfl⟩
      ·exact q5.elim
     simp only at q5
     obtain ⟨y,rfl,hysp,hyb,hcc,_,hyo⟩:=q5
     have hin:n + r.m≤cap:=by omega
     obtain ⟨_,_,_,_,_,_,_,hrow⟩:=slice_cells rfl hHj
     subst s3
     rw [←u4] at hst s4
     have hmidsub:=T.owned_mid s 0 n
     have hjmem:∀ b∈s.owned,b∈own F1:=fun b hb=>own_mem hg (by simp [T.owned,hb])
     have hlow:∀ b∈(s.mid 0 n).owned ++ x'.owned,b < w.heap.size:=fun b hb=>by
      rcases List.mem_append.1 hb with hb | hb
      ·have h6:=s6 b
       have h7:=hjmem b (hmidsub.subset hb)
       exact hi.lt b (by rw [mem_of_count] at *;omega)
      ·have h6:=s6 b
       exact hi.lt b (by rw [mem_of_count] at *;omega)
     obtain ⟨cap1,rfl⟩:∃ k,cap0 = k + 1:=⟨cap0 - 1,by omega⟩
     have hblk:blk (.slice (some x0) len0 (cap1 + 1)) = [x0.block]:=by simp [blk]
     have hblk2:blk (.slice (some x0) (n + r.m) (cap1 + 1)) = [x0.block]:=by simp [blk]
     have hx0own:x0.block∈own F:=own_mem hsame (by simp [T.owned,hblk])
     have hapart:∀ a:Addr,some y = some a→¬ I a.block:=fun a ha=>by
      cases ha
      rw [hyb]
      exact hi.apart _ hx0own
     obtain ⟨v',w',r1,r2,r3,r4,r5,r6,_,_,r9,r10⟩:=append_node (P:=c.P) w (ty:=ty) u1 u2 u3 hst s4 (by rw [u6,u4]) hi.ilt
      (fun hle0 hm0 a ha=>by
       cases ha
       have h4:=count_le_one hi.nodup x0.block
       have h5:=own_set hsame (.junk (.slice (some x0) len0 (cap1 + 1))) x0.block
       have h6:=s6 x0.block
       have h8:=own_set hg (.junk (.slice (some x0) len0 (cap1 + 1))) x0.block
       have h9:=hmidsub.count_le x0.block
       simp only [T.owned,List.count_nil,List.count_append,hblk,List.count_singleton_self] at h5 h8
       rw [hyb]
       refine ⟨hi.apart _ hx0own,fun hm=>?_,fun hm=>?_⟩
       ·rw [mem_of_count] at hm;omega
       ·rw [mem_of_count] at hm;omega)
      hlow (by rw [u5];exact hf1) hf2
     obtain ⟨hv',_⟩:=r9 hin
     obtain ⟨ay,row,row',e',hay,hrw,hrw',hsize⟩:=append_rows (P:=c.P) w (ty:=ty) u1 u2 u3 hst s4 (fun _ _ a ha=>hapart a ha) (by rw [u5];exact hf1) hf2 r1 hin (by omega)
     cases hay
     have hnode0:=r10 fun _=>rfl
     rw [u4] at hnode0
     subst hv'
     have hnode:T.Holds w'.heap I (.sl true (.slice (some x0) (n + r.m) (cap1 + 1)) z0 ((s.mid 0 n).app x'):G):=by
      obtain ⟨n1,n2,n3,n4⟩:=hnode0
      obtain ⟨cap',rfl⟩:∃ k,cap = k + 1:=⟨cap - 1,by omega⟩
      obtain ⟨m1,m2,m3,m4,m5,rw1,e1,fr1,m6,m7,m8,m9⟩:=n4
      obtain ⟨k1,k2,k3,k4⟩:=hHj
      obtain ⟨l1,l2,l3,l4,l5,rw2,e2,fr2,l6,l7,l8,l9⟩:=k4
      refine ⟨n1,n2,(fun h=>by cases h),l1,m2,by omega,l4,(fun h=>by cases h),rw1,e1,fr1,by rw [←hyb];exact m6,m7,?_,fun j' u hu=>?_⟩
      ·rw [hrw'] at m6
       cases m6
       rw [←hyb,hrw] at l6
       cases l6
       rw [hsize];exact l8
      ·have:=m9 j' u hu
       rw [hyo (Nat.succ_pos _),Nat.zero_mul,Nat.add_zero] at this
       exact this
     have hcnt:(T.sl true (.slice (some x0) (n + r.m) (cap1 + 1)) z0 ((s.mid 0 n).app x'):G).owned = [x0.block] ++ ((s.mid 0 n).owned ++ x'.owned):=by
      simp only [T.owned,hblk2,if_true];rw [T.owned_app hst.2.1]
     have S:=Stp.setRoot (κ:=st.κ) hi s7 s5 (ext:=x'.owned) s6 hg hjb hnode
      (fun b hb=>by
       rw [hcnt]
       have h9:=hmidsub.count_le b
       simp only [T.owned,hblk,List.count_append,if_true]
       omega)
      (fun b hb=>by
       rw [hcnt]
       have h2:((s.mid 0 n).owned ++ x'.owned).count b = 0:=List.count_eq_zero.2 fun hm=>by have:=hlow b hm;omega
       rw [List.count_append,h2]
       exact Nat.le_trans (by simp) (List.count_le_length (l:=[x0.block]) (a:=b)))
      (fun b hb=>by
       rw [hcnt] at hb
       rcases List.mem_append.1 hb with hb | hb
       ·simp only [List.mem_singleton] at hb
        subst hb
        have:=hi.lt _ hx0own
        omega
       ·have:=hlow b hb;omega)
      (fun b hb hn=>r6 b hb fun a ha hle0 hm0 e'=>hn (by cases ha;simp [T.owned,hblk,e',hyb]))
      r5 r2 r3 r4
     have hlen:((s.mid 0 n).app x').len = n + r.m:=(slice_cells rfl hnode).1.symm
     have hjl:j < F1.length:=(List.getElem?_eq_some_iff.1 hg).1
     have hdr1:hdrF (F1.set j (T.sl true (.slice (some x0) (n + r.m) (cap1 + 1)) z0 ((s.mid 0 n).app x'))) j [] = some (true,.slice (some x0) (n + r.m) (cap1 + 1),z0,n + r.m):=by
      simp [hdrF,hjl,T.at_,hdr,hlen]
     have h12:(F1.set j (.sl true (.slice (some x0) (n + r.m) (cap1 + 1)) z0 ((s.mid 0 n).app x'))).map T.erase = r.X.set j (.sl true () z0 (((s.erase).mid 0 n).app r.u)):=by
      rw [List.map_set,s1]
      simp only [T.erase,T.erase_app,T.erase_mid,s2]
     have hi2:=hi.step S
     rw [h12] at hi2
     have h13:=hi2.unkill (κ':=r.κ ++ [(j,[])]) fun k' q' s' hk'=>by
      rw [dead_append]
      have h14:dead [(j,[])] k' q' s' = false:=by
       have:(k' == j) = false:=by simp;omega
       simp [dead,this]
      rw [h14,Bool.or_false]
      exact src_bases hr hk'
     have h13:=h13.rekill (κ':=st.κ.filter fun e=>!Nat.beq e.1 j) fun k' q' s' hk' hdd=>by
      rw [dead_filterJ _ _ _ _ _ (by omega)] at hdd;exact hdd
     refine ⟨_,_,_,w',hK,r1,hd.step hi S,hs,I,_,h13,fun t'=>?_,hp.step hi S,true,_,z0,_,_,hdr1,rfl,some y,cap,rfl,by omega,hin,q3,(fun h=>by cases h),y,rfl,hysp,hyb,by simpa using hcc,?_,hyo⟩
     ·rw [look_keepS]
      have hstep:=he.step hi S t'
      rw [look_kill] at hstep
      have hold:=he t'
      generalize look st.env t' = av at *
      unfold AV.keepS
      split
      ·rename_i j' n' ex'
       cases hjn:(Nat.beq j' j && Nat.beq n' n) with
       | false=>exact hstep
       | true =>
        simp only [Bool.and_eq_true] at hjn
        obtain rfl:=Nat.eq_of_beq_eq_true hjn.1
        obtain rfl:=Nat.eq_of_beq_eq_true hjn.2
        obtain ⟨_,_,_,_,u,e1,e2,e3⟩:=hold
        simp only [hdrF,hsame,Option.bind_some,T.at_,hdr,Option.some.injEq,Prod.mk.injEq] at e1
        obtain ⟨rfl,rfl,rfl,rfl⟩:=e1
        obtain ⟨Au,cu,rfl,p1,p2,p3,p4,p5⟩:=e3
        exact ⟨true,_,z0,_,_,hdr1,e2,Au,cu,rfl,by omega,p2,p3,p4,p5⟩
      ·exact hstep
     ·obtain ⟨Ay,cy,ey,_,_,_,_,p5⟩:=hsub
      cases ey
      obtain ⟨y2,ey2,_,_,_,p6,_⟩:=p5
      cases ey2
      exact p6
    | _=>simp [T.erase] at hj
  ·exact hK.elim
def boxVc (nb:Nat) (st:St) (av:AV) (K:AV→St→Prop):Prop :=
 let r:=av.lay nb st.X
 K (.ptr r.X.length [.d]) ((st.moved r).push r (.d :: ·) (.box true () r.d))
def rowVc (nb:Nat) (st:St) (z n:Nat) (av:AV) (K:AV→St→Prop):Prop :=
 let r:=av.lay nb st.X
 r.d.uni z∧r.d.len = n∧K (.sub r.X.length [] 0 n true) ((st.moved r).push r toI (.sl true () z r.d))
def storeVc (nb:Nat) (st:St) (av:AV) (k:Nat) (q:Path) (K:AV→St→Prop):Prop :=
 let r:=av.lay nb st.X
 (r.tree k).okp q = true∧r.d.width = ((r.tree k).at_ q).width∧K .bad (st.stored nb r k q)
def appSame (nb z by_:Nat) (st:St) (b x:AV) (K:AV→St→Prop):Prop :=
 match b.src nb z st.X,x.src nb z st.X with
 | some rb,some r=>r.κ = []∧r.m = 0∧fits rb.m 0 by_∧K b st
 | _,_=>False
def appVc (nb z by_:Nat) (st:St) (b x:AV) (K:AV→St→Prop):Prop :=
 match b with
 | .sub j [] lo n false=>bif marked st.κ j && Nat.beq lo 0 then appSplit nb z by_ st j n x K else appRoot nb z by_ st j lo n x K
 | .sub j [] lo 0 true=>bif Nat.ble nb j then appRoot nb z by_ st j lo 0 x K else match x.src nb z st.X with
  | some r=>bif Nat.blt 0 r.m then appFresh nb z by_ st (.sub j [] lo 0 true) x K else appSame nb z by_ st (.sub j [] lo 0 true) x K
  | none=>False
 | .sub j q lo n true=>match x.src nb z st.X with
  | some r=>bif Nat.blt 0 r.m then appFresh nb z by_ st (.sub j q lo n true) x K else appSame nb z by_ st (.sub j q lo n true) x K
  | none=>False
 | b=>appFresh nb z by_ st b x K
def effVc (τ:Tab) (nb:Nat) (o:Op) (st:St) (K:AV→St→Prop):Prop :=
 match o with
 | .store t p x=>match st.ev p with
  | .ptr k q=>(st.evT τ t x).isCell = true∧((τ t).ld.map fun y=>y.2) = some (st.evT τ t x).width∧storeVc nb st (st.evT τ t x) k q K
  | _=>False
 | .alloc t=>match (τ t).zero with
  | some g=>(AV.ofZ g).isCell = true∧boxVc nb st (AV.ofZ g) K
  | none=>False
 | .box t x=>(st.evT τ t x).isCell = true∧boxVc nb st (st.evT τ t x) K
 | .buildSlice t n parts=>match (τ t).sl with
  | some (e,z,_,_)=>match (τ e).zero with
   | some g=>n * z≤16777216∧n≤16777216∧g.width = z∧0 < z ∧
     partsVc st (fun i=>some (i * z,z)) (AV.ofList (List.replicate n (AV.ofZ g))) parts.toList fun s=>s.isSeq = true∧rowVc nb st z n s K
   | none=>False
  | none=>False
 | .call c=>match c.callee,c.args.toList,c.argTypes.toList with
  | .builtin .append,[x,y],[t,u]=>match (τ t).sl with
   | some (_,z,by_,_)=>t = u∧appVc nb z by_ st (st.evT τ t x) (st.evT τ t y) K
   | none=>False
  | _,_,_=>False
 | _=>False
theorem Rel.appSame {c:Cx} {τ:Tab} (hτ:Tab.Ok c.P τ) {st:St} {a:Act} {w:World} {I:Nat→Prop} {F:List G} (hd:Dfs c.w0.heap.size a.defers w) (hs:a.tmps.size = c.nt) (hi:Inv c st.X st.κ w I F)
  (he:EnvOk st.env a w I F) (hp:PlOk st.pl w I F) {t ty:TypeId} {e z by_:Nat} {zv:Value} (ht:(τ t).sl = some (e,z,by_,zv)) {b x:AV} {v vx:Value}
  (hv:Rl w.heap I F b true [v]) (hx:Rl w.heap I F x true [vx]) {K:AV→St→Prop} (hK:Vc.appSame c.F0.length z by_ st b x K) :
  ∃ av st' v' w',K av st'∧(Builtin.append_ #[t,t] ty #[v,vx]).run c.P w = .ok v' w'∧RelR c st' av v' a w':=by
 unfold Vc.appSame at hK
 split at hK
 case h_2=>exact hK.elim
 rename_i rb r hrb hr
 obtain ⟨_,hm,⟨hf1,hf2⟩,hK⟩:=hK
 rw [←hi.erase] at hr hrb
 obtain ⟨_,x',o2,A2,c2,_,_,s3,s4,_,s6,_⟩:=src_ok hi.holds hx hr
 obtain ⟨_,s,o1,A,cap,_,_,t3,t4,_,t6,_⟩:=src_ok hi.holds hv hrb
 subst s3
 subst t3
 rw [hm] at s4 ⊢
 obtain ⟨u1,inf,u2,u3,u4,u5,u6⟩:=(hτ t).sl _ _ _ _ ht
 rw [←u4] at s4 t4
 have hlow:∀ b∈s.owned ++ x'.owned,b < w.heap.size:=fun b hb=>by
  rcases List.mem_append.1 hb with hb | hb
  ·have h6:=t6 b;exact hi.lt b (by rw [mem_of_count] at *;omega)
  ·have h6:=s6 b;exact hi.lt b (by rw [mem_of_count] at *;omega)
 have hcap:=(slice_cells rfl t4).2.1
 obtain ⟨v',w',r1,r2,r3,r4,r5,r6,_,_,r9,_⟩:=append_node (P:=c.P) w (ty:=ty) u1 u2 u3 t4 s4 (by rw [u6,u4]) hi.ilt (fun _ h=>by omega) hlow (by rw [u5];exact hf1) hf2
 obtain ⟨h1,h2⟩:=r9 (by omega)
 have hheap:w'.heap = w.heap:=by
  apply Array.ext_getElem?
  intro i
  rcases Nat.lt_or_ge i w.heap.size with h' | h'
  ·exact r6 i h' fun _ _ _ h=>by omega
  ·rw [Array.getElem?_eq_none h',Array.getElem?_eq_none (by omega)]
 subst h1
 obtain ⟨g1,g2,I',F',g3,g4,g5⟩:=Rel.quiet (c:=c) (st:=st) ⟨hd,hs,I,F,hi,he,hp⟩ hheap r2 r3 r4
 refine ⟨_,_,_,w',hK,r1,hd.same hheap,hs,I,F,?_,?_,?_,by rw [hheap];exact hv⟩
 ·exact ⟨hi.erase,by rw [hheap];exact hi.holds,hi.nodup,hi.apart,by rw [hheap];exact hi.lt,by rw [hheap];exact hi.ilt,r2.trans hi.os,r3.trans hi.tape,r4.trans hi.output,
   by rw [hheap];exact hi.size,by rw [hheap];exact hi.frame,hi.fresh,hi.imono,hi.inew,hi.base⟩
 ·exact fun t=>by rw [hheap];exact he t
 ·exact fun k q av hm=>by rw [hheap];exact hp k q av hm
theorem appVc_ok {c:Cx} {τ:Tab} (hτ:Tab.Ok c.P τ) {st:St} {a:Act} {w:World} {I:Nat→Prop} {F:List G} (hd:Dfs c.w0.heap.size a.defers w) (hs:a.tmps.size = c.nt) (hi:Inv c st.X st.κ w I F)
  (he:EnvOk st.env a w I F) (hp:PlOk st.pl w I F) {t ty:TypeId} {e z by_:Nat} {zv:Value} (ht:(τ t).sl = some (e,z,by_,zv)) {b x:AV} {v vx:Value}
  (hv:Rl w.heap I F b true [v]) (hx:Rl w.heap I F x true [vx]) {K:AV→St→Prop} (hK:appVc c.F0.length z by_ st b x K) :
  ∃ av st' v' w',K av st'∧(Builtin.append_ #[t,t] ty #[v,vx]).run c.P w = .ok v' w'∧RelR c st' av v' a w':=by
 unfold appVc at hK
 split at hK
 ·rename_i j lo n
  cases hm:(marked st.κ j && Nat.beq lo 0) with
  | true =>
   rw [hm] at hK
   simp only [Bool.and_eq_true] at hm
   obtain rfl:=Nat.eq_of_beq_eq_true hm.2
   exact Rel.appSplit hτ hd hs hi he hp ht hv hx hK
  | false=>rw [hm] at hK;exact Rel.appRoot hτ hd hs hi he hp ht hv hx hK
 ·rename_i j lo
  cases hj:Nat.ble c.F0.length j with
  | true=>rw [hj] at hK;exact Rel.appRoot hτ hd hs hi he hp ht hv hx hK
  | false =>
   rw [hj] at hK
   simp only [cond_false] at hK
   split at hK
   ·rename_i r _
    cases hb:Nat.blt 0 r.m with
    | true=>rw [hb] at hK;exact Rel.appFresh hτ hd hs hi he hp ht hv hx hK
    | false=>rw [hb] at hK;exact Rel.appSame hτ hd hs hi he hp ht hv hx hK
   ·exact hK.elim
 ·split at hK
  ·rename_i r _
   cases hb:Nat.blt 0 r.m with
   | true=>rw [hb] at hK;exact Rel.appFresh hτ hd hs hi he hp ht hv hx hK
   | false=>rw [hb] at hK;exact Rel.appSame hτ hd hs hi he hp ht hv hx hK
  ·exact hK.elim
 ·exact Rel.appFresh hτ hd hs hi he hp ht hv hx hK
theorem ofList_replicate_rl {h:Array Obj} {I:Nat→Prop} {F:List G} {g:G} (hg:zeroish g = true):∀ n,Rl h I F (AV.ofList (List.replicate n (AV.ofZ g))) false (List.replicate n g.cells).flatten
 | 0=>rfl
 | n + 1=>⟨_,_,by simp [List.replicate_succ],ofZ_rl hg,ofList_replicate_rl hg n⟩
theorem range_mod {zero:Array Value}:∀ (n:Nat),0 < zero.size→((Array.range (n * zero.size)).map fun i=>zero[i % zero.size]!).toList = (List.replicate n zero.toList).flatten:=by
 intro n hz
 apply List.ext_getElem?
 intro i
 have hfl:∀ (n i:Nat),(List.replicate n zero.toList).flatten[i]? = if i < n * zero.size then zero.toList[i % zero.size]? else none:=by
  intro n
  induction n with
  | zero=>intro i;simp
  | succ n ih =>
   intro i
   simp only [List.replicate_succ,List.flatten_cons]
   by_cases hi:i < zero.size
   ·rw [List.getElem?_append_left (by simpa using hi),Nat.mod_eq_of_lt hi,if_pos (by rw [Nat.succ_mul];omega)]
   ·rw [List.getElem?_append_right (by simpa using hi),ih]
    simp only [Array.length_toList]
    rw [show i % zero.size = (i - zero.size) % zero.size from Nat.mod_eq_sub_mod (by omega),Nat.succ_mul]
    by_cases h2:i < n * zero.size + zero.size
    ·rw [if_pos h2,if_pos (by omega)]
    ·rw [if_neg h2,if_neg (by omega)]
 rw [hfl]
 by_cases hi:i < n * zero.size
 ·rw [if_pos hi]
  have:=Nat.mod_lt i hz
  simp [hi,this]
 ·rw [if_neg hi]
  simp;omega
theorem uni_erase {z:Nat} {x:G} (h:x.erase.uni z):x.uni z:=by
 induction x with
 | cons a t _ iht=>simp only [T.erase,T.uni,T.erase_width] at h ⊢;exact ⟨h.1,iht h.2⟩
 | nil=>trivial
 | _=>exact h.elim
def extOp:Op→Bool
 | .store _ _ _=>false
 | .mapUpdate _ _ _ _=>false
 | .call c=>match c.callee with
  | .builtin .len=>true
  | .builtin .cap=>true
  | .builtin .min=>true
  | .builtin .max=>true
  | _=>false
 | _=>true
theorem ext_alloc (w:World) (o:Obj):Ext w (w.alloc o):=fun _ hb=>heap_alloc hb
theorem eff_ok {c:Cx} {τ:Tab} (hτ:Tab.Ok c.P τ) {st:St} {a:Act} {w:World} (h:Rel c st a w) {o:Oper} {K:AV→St→Prop} (hv:effVc τ c.F0.length o.op st K) :
  ∃ av st' v w' n,K av st'∧(execOp a.eval o).run c.P w = .ok n w'∧(n = .value v∨n = .skip∧v = undef)∧RelR c st' av v a w'∧(extOp o.op = true→Ext w w'):=by
 obtain ⟨dst,op,ty,pos,after,guard⟩:=o
 obtain ⟨hd,hs,I,F,hi,he,hp⟩:=h
 simp only at hv
 unfold effVc at hv
 split at hv
 · -- store
  rename_i t p x
  split at hv
  case h_2=>exact hv.elim
  rename_i k q hpe
  obtain ⟨h1,h2,h3,h4,h5⟩:=hv
  have hpv:=he.ev p
  rw [hpe] at hpv
  obtain ⟨b,o,h6,h7⟩:=hpv
  have hx:=he.evT (τ:=τ) t x
  generalize st.evT τ t x = av at *
  obtain ⟨w',h8,h9,h10,I',F',h11,h12,h13⟩:=Rel.store c.P hd hs hi he hp hx h1 h6 h3 h4
  have hw:=(hx.toCells h1).width
  cases hld:(τ t).ld with
  | none=>rw [hld] at h2;cases h2
  | some y =>
   rw [hld] at h2
   simp only [Option.map_some,Option.some.injEq] at h2
   obtain ⟨u1,u2,inf,u3,u4⟩:=(hτ t).ld y.1 y.2 (by rw [hld])
   injection h7 with h7 _
   refine ⟨.bad,_,undef,w',.skip,h5,?_,.inr ⟨rfl,rfl⟩,⟨h9,h10,I',F',h11,h12,h13,_,rfl⟩,fun h=>by cases h⟩
   have hsz:(a.eval x).cells.size = inf.size:=by rw [←Array.length_toList,hw,u4,h2]
   simp [execOp,Instr.storeAt,h7,Instr.sureAddr,storeVar,sizeOf,typeInfo,u3,hsz,h8]
 · -- alloc
  rename_i t
  split at hv
  case h_2=>exact hv.elim
  rename_i g hg
  obtain ⟨h1,h2⟩:=hv
  obtain ⟨z1,inf,z,z2,z3,z4⟩:=(hτ t).zero g hg
  have hR:=Rel.boxC (cs:=z.cells) hd hs hi he hp (by rw [z4];exact ofZ_rl z1) h1 t
  exact ⟨_,_,_,_,_,h2,by simp [execOp,Instr.alloc,zeroValue,typeInfo,z2,z3,newVar,newRow],.inl rfl,hR,fun _=>ext_alloc _ _⟩
 · -- box
  rename_i t x
  obtain ⟨h1,h2⟩:=hv
  have hx:=he.evT (τ:=τ) t x
  have hR:=Rel.boxC hd hs hi he hp (hx.toCells h1) h1 t
  exact ⟨_,_,_,_,_,h2,by simp [execOp,Instr.box,newVar,newRow],.inl rfl,hR,fun _=>ext_alloc _ _⟩
 · -- a slice written out
  rename_i t n parts
  split at hv
  case h_2=>exact hv.elim
  rename_i e z by_ zv ht
  split at hv
  case h_2=>exact hv.elim
  rename_i g hg
  obtain ⟨h0,h0',h1,h2,h3⟩:=hv
  obtain ⟨u1,inf,u2,u3,u4,u5,u6⟩:=(hτ t).sl _ _ _ _ ht
  obtain ⟨z1,inf',z',z2,z3,z4⟩:=(hτ e).zero g hg
  have hzz:zv.cells.toList = g.cells:=by rw [u2] at z2;cases z2;rw [u3] at z3;cases z3;exact z4
  have hcells:((Array.range (n * z)).map fun i=>zv.cells[i % zv.cells.size]!).toList = (List.replicate n g.cells).flatten:=by
   have:=range_mod (zero:=zv.cells) n (by omega)
   rw [u6] at this
   rw [←hzz]
   simpa only [u6] using this
  obtain ⟨s',c',k1,k2,k3,k4⟩:=parts_ok he parts.toList (AV.ofList (List.replicate n (AV.ofZ g))) _ (by rw [hcells];exact ofList_replicate_rl z1 n) h3
  obtain ⟨k0,k1,k5,k6⟩:=k1
  have hR:=Rel.rowC (z:=z) (n:=n) hd hs hi he hp k2 k0 (fun x hx=>⟨uni_erase (by rw [hx];exact k1),by rw [←T.erase_len,hx];exact k5⟩) (by omega) e
  refine ⟨_,_,_,_,_,k6,?_,.inl rfl,hR,fun _=>ext_alloc _ _⟩
  have hmap:(parts.map fun (i,x)=>(i,a.eval x)).toList = parts.toList.map fun (i,x)=>(i,a.eval x):=by simp
  simp only [execOp,Instr.buildSlice,Sem.run_bind,run_underlying u1,Result.andThen_ok,sizeOf,typeInfo]
  simp [u2,u4]
  rw [if_neg (by omega)]
  by_cases h0z:n * z = 0
  ·rw [if_pos h0z]
   have:((Array.range (n * z)).map fun _=>(default:Value)) = (Array.range (n * z)).map fun i=>zv.cells[i % zv.cells.size]!:=by simp [h0z]
   rw [this]
   have k4':Instr.fill (fun i=>some (i * z,z)) ((Array.range (n * z)).map fun i=>zv.cells[i % zv.cells.size]!) (parts.toList.map fun x=>(x.1,a.eval x.2)) = some c':=k4
   simp [k4',newRow]
  ·rw [if_neg h0z]
   have k4':Instr.fill (fun i=>some (i * z,z)) ((Array.range (n * z)).map fun i=>zv.cells[i % zv.cells.size]!) (parts.toList.map fun x=>(x.1,a.eval x.2)) = some c':=k4
   simp [zeroValue,typeInfo,u2,u3,k4',newRow]
 · -- append
  rename_i cc
  split at hv
  case h_2=>exact hv.elim
  rename_i x y t u hcal hargs hty
  split at hv
  case h_2=>exact hv.elim
  rename_i e z by_ zv ht
  obtain ⟨rfl,hv⟩:=hv
  obtain ⟨av,st',v',w',g1,g2,g3⟩:=appVc_ok hτ hd hs hi he hp (ty:=ty) ht (he.evT (τ:=τ) t x) (he.evT (τ:=τ) t y) hv
  refine ⟨av,st',v',w',_,g1,?_,.inl rfl,g3,fun h=>by rw [extOp,hcal] at h;cases h⟩
  have h1:cc.args.map a.eval = #[a.eval x,a.eval y]:=by
   apply Array.ext'
   simp [hargs]
  have h2:cc.argTypes = #[t,t]:=by
   apply Array.ext'
   simp [hty]
  simp [execOp,resolve,hcal,h1,h2,invoke,builtin,g2]
 ·exact hv.elim
end Go.Vc

/- Maps, closures, slices made, clear: their conditions, and that they hold what they promise. -/
namespace Go.Vc
set_option linter.all false
open T (hdr blk aggy vAgg keyT keyT_inj)
section
variable {c:Cx} {X:List D} {κ:List (Nat×Path)} {w w':World} {I:Nat→Prop} {F:List G}
theorem Stp.turn (hi:Inv c X κ w I F) {k:Nat} {g g2:G} (hk:F[k]? = some g) (hg2:T.Holds w'.heap I g2) (hc:g2.cells = g.cells) (ho:∀ b,g2.owned.count b≤g.owned.count b)
  (hh:∀ b,b∉g.owned→w'.heap[b]? = w.heap[b]?) (hsz:w'.heap.size = w.heap.size) (hos:w'.os = w.os) (ht:w'.tape = w.tape) (hp:w'.output = w.output) {κ1:List (Nat×Path)}
  (hl:∀ q,dead κ1 k q false = false→g2.loc q = g.loc q) (hd:∀ q,dead κ1 k q true = false→hdr (g2.at_ q) = hdr (g.at_ q))
  (hj:∀ q v,g.at_ q = .junk v→dead κ1 k q true = false→g2.at_ q = .junk v):Stp w w' I I F (F.set k g2) κ1 c.F0.length:=by
 have hkl:=(List.getElem?_eq_some_iff.1 hk).1
 have hcnt:∀ b,(own (F.set k g2)).count b≤(own F).count b:=fun b=>by
  have h1:=own_set hk g2 b
  have h2:=ho b
  omega
 have hmem:∀ b∈own (F.set k g2),b∈own F:=fun b hb=>by
  have:=hcnt b
  rw [mem_of_count] at *;omega
 have hgo:∀ b∈g.owned,b∈own F:=fun b hb=>own_mem hk hb
 refine ⟨?_,nodup_of_count fun b=>Nat.le_trans (hcnt b) (count_le_one hi.nodup b),fun b hb=>hi.apart b (hmem b hb),fun b hb=>.inl (hmem b hb),fun b hb=>by rw [hsz];exact hi.lt b (hmem b hb),fun b hb=>by rw [hsz];exact hi.ilt b hb,
  fun b _ hn=>hh b fun h=>hn (hgo b h),by omega,hos,ht,hp,fun _ h=>h,fun _ h=>.inl h,?_⟩
 ·intro g' hg'
  obtain ⟨i,hgi⟩:=List.getElem?_of_mem hg'
  by_cases e:k = i
  ·subst e
   rw [List.getElem?_set_self hkl] at hgi
   cases hgi;exact hg2
  ·rw [List.getElem?_set_ne e] at hgi
   refine (hi.holds g' (List.mem_of_getElem? hgi)).agree (fun b hb=>?_) (fun b hb=>hh b fun h=>hi.apart b (hgo b h) hb) fun _ h=>h
   refine hh b fun hm=>?_
   have h1:=count_other hgi hk (Ne.symm e) b
   have h3:=count_le_one hi.nodup b
   rw [mem_of_count] at hb hm
   omega
 ·intro j g' hg'
  by_cases e:k = j
  ·subst e
   rw [hk] at hg'
   cases hg'
   exact ⟨g2,List.getElem?_set_self hkl,fun _=>hc,hl,hd,hj⟩
  ·exact ⟨g',by rw [List.getElem?_set_ne e];exact hg',fun _=>rfl,fun _ _=>rfl,fun _ _=>rfl,fun _ _ h _=>h⟩
end
theorem own_one_of' {F:List G} {k:Nat} {g:G} (hk:F[k]? = some g) (b:Nat):g.owned.count b≤(own F).count b:=by
 have:=own_set hk (.nil) b
 simp only [T.owned,List.count_nil] at this;omega
theorem dead_one {k:Nat} {p q:Path} {s:Bool}:dead [(k,p)] k q s = (mpre p q && (s || decide (p.length < q.length))):=by simp [dead]
section
variable {c:Cx} {X:List D} {κ:List (Nat×Path)} {w w':World} {I:Nat→Prop} {F:List G}
theorem Stp.turnIn (hi:Inv c X κ w I F) {k k2:Nat} {g gx g2:G} {a2:Value} (hk:F[k]? = some g) (hk2:F[k2]? = some gx) (hne:k2≠k) (hb:c.F0.length≤k2) (ha2:a2.oneCell' = true) (hg2:T.Holds w'.heap I g2) (hc:g2.cells = g.cells)
  (ho:∀ b,g2.owned.count b≤g.owned.count b + gx.owned.count b) (hh:∀ b,b∉g.owned→w'.heap[b]? = w.heap[b]?) (hsz:w'.heap.size = w.heap.size) (hos:w'.os = w.os) (ht:w'.tape = w.tape) (hp:w'.output = w.output) {κ1:List (Nat×Path)}
  (hl:∀ q,dead κ1 k q false = false→g2.loc q = g.loc q) (hd:∀ q,dead κ1 k q true = false→hdr (g2.at_ q) = hdr (g.at_ q))
  (hj:∀ q v,g.at_ q = .junk v→dead κ1 k q true = false→g2.at_ q = .junk v):Stp w w' I I F ((F.set k2 (.junk a2)).set k g2) (κ1 ++ [(k2,[])]) c.F0.length:=by
 have hkl:=(List.getElem?_eq_some_iff.1 hk).1
 have hkl2:=(List.getElem?_eq_some_iff.1 hk2).1
 have hk':(F.set k2 (.junk a2))[k]? = some g:=by rw [List.getElem?_set_ne hne];exact hk
 have hcnt:∀ b,(own ((F.set k2 (.junk a2)).set k g2)).count b≤(own F).count b:=fun b=>by
  have h1:=own_set hk' g2 b
  have h2:=ho b
  have h3:=own_set hk2 (.junk a2) b
  simp only [T.owned,List.count_nil] at h3
  omega
 have hmem:∀ b∈own ((F.set k2 (.junk a2)).set k g2),b∈own F:=fun b hb=>by
  have:=hcnt b
  rw [mem_of_count] at *;omega
 have hgo:∀ b∈g.owned,b∈own F:=fun b hb=>own_mem hk hb
 refine ⟨?_,nodup_of_count fun b=>Nat.le_trans (hcnt b) (count_le_one hi.nodup b),fun b hb=>hi.apart b (hmem b hb),fun b hb=>.inl (hmem b hb),fun b hb=>by rw [hsz];exact hi.lt b (hmem b hb),fun b hb=>by rw [hsz];exact hi.ilt b hb,
  fun b _ hn=>hh b fun h=>hn (hgo b h),by omega,hos,ht,hp,fun _ h=>h,fun _ h=>.inl h,?_⟩
 ·intro g' hg'
  obtain ⟨i,hgi⟩:=List.getElem?_of_mem hg'
  by_cases e:k = i
  ·subst e
   rw [List.getElem?_set_self (by simpa using hkl)] at hgi
   cases hgi;exact hg2
  ·rw [List.getElem?_set_ne e] at hgi
   by_cases e2:k2 = i
   ·subst e2
    rw [List.getElem?_set_self hkl2] at hgi
    cases hgi;exact ha2
   ·rw [List.getElem?_set_ne e2] at hgi
    refine (hi.holds g' (List.mem_of_getElem? hgi)).agree (fun b hb=>?_) (fun b hb=>hh b fun h=>hi.apart b (hgo b h) hb) fun _ h=>h
    refine hh b fun hm=>?_
    have h1:=count_other hgi hk (Ne.symm e) b
    have h3:=count_le_one hi.nodup b
    rw [mem_of_count] at hb hm
    omega
 ·intro j g' hg'
  by_cases e:k = j
  ·subst e
   rw [hk] at hg'
   cases hg'
   refine ⟨g2,List.getElem?_set_self (by simpa using hkl),fun _=>hc,fun q hq=>hl q ?_,fun q hq=>hd q ?_,fun q v hv hq=>hj q v hv ?_⟩ <;> (rw [dead_append,Bool.or_eq_false_iff] at hq;exact hq.1)
  ·by_cases e2:k2 = j
   ·subst e2
    refine ⟨.junk a2,by rw [List.getElem?_set_ne e];exact List.getElem?_set_self hkl2,fun h=>by omega,fun q hq=>?_,fun q hq=>?_,fun q v _ hq=>?_⟩
    ·rw [dead_append,Bool.or_eq_false_iff] at hq
     cases q with
     | nil=>simp [T.loc]
     | cons st q=>have:=hq.2;simp [dead,mpre] at this
    ·rw [dead_append,Bool.or_eq_false_iff] at hq
     have:=hq.2;simp [dead,mpre] at this
    ·rw [dead_append,Bool.or_eq_false_iff] at hq
     have:=hq.2;simp [dead,mpre] at this
   ·exact ⟨g',by rw [List.getElem?_set_ne e,List.getElem?_set_ne e2];exact hg',fun _=>rfl,fun _ _=>rfl,fun _ _=>rfl,fun _ _ h _=>h⟩
end
def AV.flatS:AV→Option D
 | .val v=>some (.val v)
 | .nils z=>some (.sl false () z .nil)
 | .imm z s _=>some (.sl false () z s)
 | .nil=>some .nil
 | .cons a t=>match a.flatS,t.flatS with
  | some x,some y=>some (.cons x y)
  | _,_=>none
 | .agg s=>match s.flatS with
  | some x=>some (.agg x)
  | none=>none
 | _=>none
def AV.flat:AV→Option D
 | .val v=>some (.val v)
 | .nils z=>some (.sl false () z .nil)
 | .imm z s _=>some (.sl false () z s)
 | .agg s=>match s.flatS with
  | some x=>some (.agg x)
  | none=>none
 | _=>none
def sq0 {α:Type}:List (T α)→T α
 | []=>.nil
 | a :: l=>.cons a (sq0 l)
theorem flatS_ok {h:Array Obj} {I:Nat→Prop} {F:List G} {av:AV}:∀ {cs:List Value} {d:D},Rl h I F av false cs→av.flatS = some d →
  ∃ x:G,x.erase = d∧x.cells = cs∧T.Holds h I x∧x.owned = []:=by
 induction av with
 | val u =>
  intro cs d H hd
  simp only [AV.flatS,Option.some.injEq] at hd
  obtain ⟨rfl,h2⟩:=H
  exact ⟨.val u,hd,rfl,h2,rfl⟩
 | nils z =>
  intro cs d H hd
  simp only [AV.flatS,Option.some.injEq] at hd
  cases H
  exact ⟨.sl false (.slice none 0 0) z .nil,hd,rfl,⟨trivial,trivial,fun _=>rfl,rfl,rfl,rfl⟩,rfl⟩
 | imm z s ex =>
  intro cs d H hd
  simp only [AV.flatS,Option.some.injEq] at hd
  obtain ⟨v',rfl,s',rfl,h3,_⟩:=H
  exact ⟨.sl false v' z s',hd,rfl,h3,rfl⟩
 | nil =>
  intro cs d H hd
  simp only [AV.flatS,Option.some.injEq] at hd
  cases H
  exact ⟨.nil,hd,rfl,trivial,rfl⟩
 | cons a t iha iht =>
  intro cs d H hd
  obtain ⟨v1,v2,rfl,h1,h2⟩:=H
  simp only [AV.flatS] at hd
  split at hd
  ·rename_i x y ex ey
   cases hd
   obtain ⟨x1,p1,p2,p3,p4⟩:=iha h1 ex
   obtain ⟨y1,q1,q2,q3,q4⟩:=iht h2 ey
   exact ⟨.cons x1 y1,by simp [T.erase,p1,q1],by simp [T.cells,p2,q2],⟨p3,q3⟩,by simp [T.owned,p4,q4]⟩
  ·cases hd
 | agg s ih =>
  intro cs d H hd
  simp only [AV.flatS] at hd
  split at hd
  ·rename_i x ex
   cases hd
   obtain ⟨x1,p1,p2,p3,p4⟩:=ih (cs:=cs) H ex
   exact ⟨.agg x1,by simp [T.erase,p1],p2,p3,p4⟩
  ·cases hd
 | _=>intro cs d H hd;cases hd
theorem cells_one {v:Value} (h:vAgg v = false):v.cells.toList = [v]:=by cases v <;> first | rfl | cases h
theorem one_vAgg {v:Value} (h:v.oneCell' = true):vAgg v = false:=by cases v <;> first | rfl | cases h
theorem flat_ok {h:Array Obj} {I:Nat→Prop} {F:List G} {av:AV} {v:Value} {d:D} (H:Rl h I F av true [v]) (hd:av.flat = some d) :
  ∃ x:G,x.erase = d∧x.cells = v.cells.toList∧T.Holds h I x∧x.owned = []∧aggy x = vAgg v:=by
 have one:∀ {v:Value},v.oneCell' = true→vAgg v = false:=one_vAgg
 cases av <;> simp only [AV.flat,Option.some.injEq] at hd <;> try cases hd
 case val u =>
  obtain ⟨h1,h2⟩:=H
  simp only [List.cons.injEq,and_true] at h1
  subst h1
  exact ⟨.val v,rfl,(cells_one (one h2)).symm,h2,rfl,(one h2).symm⟩
 case nils z =>
  simp only [Rl,List.cons.injEq,and_true] at H
  subst H
  exact ⟨.sl false (.slice none 0 0) z .nil,rfl,rfl,⟨trivial,trivial,fun _=>rfl,rfl,rfl,rfl⟩,rfl,rfl⟩
 case imm z s ex =>
  obtain ⟨v',h1,s',h2,h3,_⟩:=H
  simp only [List.cons.injEq,and_true] at h1
  subst h1
  subst h2
  have hs:=h3.2.2.2
  have hva:vAgg v = false:=by
   cases v <;> first | rfl | exact hs.elim
  exact ⟨.sl false v z s',rfl,(cells_one hva).symm,h3,rfl,by rw [hva];rfl⟩
 case agg s =>
  obtain ⟨cs,h1,h2⟩:=H
  simp only [List.cons.injEq,and_true] at h1
  subst h1
  split at hd
  ·rename_i x ex
   cases hd
   obtain ⟨x1,p1,p2,p3,p4⟩:=flatS_ok h2 ex
   exact ⟨.agg x1,by simp [T.erase,p1],by simp [T.cells,p2,Value.cells],p3,p4,rfl⟩
  ·cases hd
def AV.keys:AV→Option (List Value)
 | .nil=>some []
 | .cons (.val v) t=>match t.keys with
  | some l=>some (v :: l)
  | none=>none
 | _=>none
def AV.key:AV→Option Value
 | .val v=>some v
 | .agg s=>match s.keys with
  | some l=>some (.agg l.toArray)
  | none=>none
 | _=>none
theorem keys_ok {h:Array Obj} {I:Nat→Prop} {F:List G}:∀ {s:AV} {l cs:List Value},s.keys = some l→Rl h I F s false cs→cs = l
 | .nil,l,cs,hl,H=>by cases hl;exact H
 | .cons (.val v) t,l,cs,hl,H=>by
  simp only [AV.keys] at hl
  split at hl
  ·rename_i m hm
   cases hl
   obtain ⟨v1,v2,rfl,⟨rfl,_⟩,h2⟩:=H
   rw [keys_ok hm h2];rfl
  ·cases hl
theorem key_ok {h:Array Obj} {I:Nat→Prop} {F:List G} {av:AV} {k v:Value} (hk:av.key = some k) (H:Rl h I F av true [v]):v = k:=by
 unfold AV.key at hk
 split at hk
 ·cases hk;obtain ⟨e,_⟩:=H;injection e
 ·split at hk
  ·rename_i l hl
   cases hk
   obtain ⟨cs,e,h2⟩:=H
   injection e with e
   rw [e,keys_ok hl h2]
  ·cases hk
 ·cases hk
def mkeysOk (d:KK):D→Prop
 | .nil=>True
 | .cons (.agg (.cons K (.cons _ .nil))) t=>(∃ k,K = keyT k∧d.is k)∧mkeysOk d t
 | _=>False
section
variable {α:Type}
open Classical in
noncomputable def mfind (key:Value):T α→Option (T α)
 | .cons (.agg (.cons K (.cons v .nil))) t=>if K = keyT key then some v else mfind key t
 | _=>none
open Classical in
noncomputable def mix (key:Value):T α→Nat
 | .cons (.agg (.cons K (.cons _ .nil))) t=>if K = keyT key then 0 else mix key t + 1
 | _=>0
open Classical in
noncomputable def mput (key:Value) (u:T α):T α→T α
 | .cons (.agg (.cons K (.cons v .nil))) t=>if K = keyT key then .cons (.agg (.cons K (.cons u .nil))) t else .cons (.agg (.cons K (.cons v .nil))) (mput key u t)
 | _=>.cons (.agg (.cons (keyT key) (.cons u .nil))) .nil
open Classical in
noncomputable def mdel (key:Value):T α→T α
 | .cons (.agg (.cons K (.cons v .nil))) t=>if K = keyT key then t else .cons (.agg (.cons K (.cons v .nil))) (mdel key t)
 | _=>.nil
end
theorem entries_form {es:List MapEntry} {g:G} (h:T.entriesAre es g):(es = []∧g = .nil)∨∃ e es' v t,es = e :: es'∧g = .cons (.agg (.cons (keyT e.key) (.cons v .nil))) t∧v.cells = e.val.cells.toList∧aggy v = vAgg e.val∧T.entriesAre es' t:=by
 unfold T.entriesAre at h
 split at h
 ·exact .inl ⟨rfl,rfl⟩
 ·obtain ⟨h1,⟨h2,h3⟩,h4⟩:=h
  subst h1
  exact .inr ⟨_,_,_,_,rfl,rfl,h2,h3,h4⟩
 ·exact h.elim
theorem mkeys_of {d:KK} {es:List MapEntry}:∀ {g:G},T.entriesAre es g→mkeysOk d g.erase→∀ x∈es,d.is x.key:=by
 induction es with
 | nil=>intro g _ _ x hx;cases hx
 | cons e es ih =>
  intro g h hk x hx
  rcases entries_form h with ⟨h,_⟩ | ⟨e',es',v,t,he,rfl,h2,h3,h4⟩
  ·cases h
  ·cases he
   simp only [T.erase,T.keyT_erase] at hk
   obtain ⟨⟨k,k1,k1'⟩,k2⟩:=hk
   rcases List.mem_cons.1 hx with rfl | hx
   ·rw [keyT_inj k1];exact k1'
   ·exact ih h4 k2 x hx
theorem mput_erase {es:List MapEntry} {key:Value} {u:G}:∀ {g:G},T.entriesAre es g→(mput key u g).erase = mput key u.erase g.erase:=by
 induction es with
 | nil =>
  intro g h
  rcases entries_form h with ⟨_,rfl⟩ | ⟨_,_,_,_,h,_⟩
  ·simp only [mput,T.erase,T.keyT_erase]
  ·cases h
 | cons e es ih =>
  intro g h
  rcases entries_form h with ⟨h,_⟩ | ⟨e',es',v,t,he,rfl,h2,h3,h4⟩
  ·cases h
  ·cases he
   simp only [mput,T.erase,T.keyT_erase]
   by_cases hq:e.key = key
   ·rw [if_pos (by rw [hq]),if_pos (by rw [hq])];simp only [T.erase,T.keyT_erase]
   ·rw [if_neg (fun h=>hq (keyT_inj h)),if_neg (fun h=>hq (keyT_inj h))];simp only [T.erase,T.keyT_erase,ih h4]
theorem mdel_erase {es:List MapEntry} {key:Value}:∀ {g:G},T.entriesAre es g→(mdel key g).erase = mdel key g.erase:=by
 induction es with
 | nil =>
  intro g h
  rcases entries_form h with ⟨_,rfl⟩ | ⟨_,_,_,_,h,_⟩
  ·rfl
  ·cases h
 | cons e es ih =>
  intro g h
  rcases entries_form h with ⟨h,_⟩ | ⟨e',es',v,t,he,rfl,h2,h3,h4⟩
  ·cases h
  ·cases he
   simp only [mdel,T.erase,T.keyT_erase]
   by_cases hq:e.key = key
   ·rw [if_pos (by rw [hq]),if_pos (by rw [hq])]
   ·rw [if_neg (fun h=>hq (keyT_inj h)),if_neg (fun h=>hq (keyT_inj h))];simp only [T.erase,T.keyT_erase,ih h4]
theorem mput_owned {es:List MapEntry} {key:Value} {u:G} (b:Nat):∀ {g:G},T.entriesAre es g→(mput key u g).owned.count b≤g.owned.count b + u.owned.count b:=by
 induction es with
 | nil =>
  intro g h
  rcases entries_form h with ⟨_,rfl⟩ | ⟨_,_,_,_,h,_⟩
  ·simp [mput,T.owned,T.keyT_owned]
  ·cases h
 | cons e es ih =>
  intro g h
  rcases entries_form h with ⟨h,_⟩ | ⟨e',es',v,t,he,rfl,h2,h3,h4⟩
  ·cases h
  ·cases he
   simp only [mput]
   split
   ·simp only [T.owned,T.keyT_owned,List.count_append,List.count_nil];omega
   ·have:=ih h4
    simp only [T.owned,T.keyT_owned,List.count_append,List.count_nil];omega
theorem mdel_owned {es:List MapEntry} {key:Value} (b:Nat):∀ {g:G},T.entriesAre es g→(mdel key g).owned.count b≤g.owned.count b:=by
 induction es with
 | nil =>
  intro g h
  rcases entries_form h with ⟨_,rfl⟩ | ⟨_,_,_,_,h,_⟩
  ·simp [mdel]
  ·cases h
 | cons e es ih =>
  intro g h
  rcases entries_form h with ⟨h,_⟩ | ⟨e',es',v,t,he,rfl,h2,h3,h4⟩
  ·cases h
  ·cases he
   simp only [mdel]
   split
   ·simp only [T.owned,List.count_append];omega
   ·have:=ih h4
    simp only [T.owned,List.count_append];omega
theorem keyT_holds {h:Array Obj} {I:Nat→Prop} {d:KK} {k:Value} (hk:d.is k):T.Holds h I (keyT k):=by
 cases d <;> cases k <;> first | exact hk.elim | exact rfl | skip
 obtain ⟨a,b,rfl⟩:=hk
 exact ⟨rfl,rfl,trivial⟩
theorem mput_holds {h:Array Obj} {I:Nat→Prop} {es:List MapEntry} {d:KK} {key:Value} {u:G} (hk:d.is key) (hu:T.Holds h I u):∀ {g:G},T.entriesAre es g→T.Holds h I g→T.Holds h I (mput key u g):=by
 induction es with
 | nil =>
  intro g h hg
  rcases entries_form h with ⟨_,rfl⟩ | ⟨_,_,_,_,h,_⟩
  ·exact ⟨⟨keyT_holds hk,hu,trivial⟩,trivial⟩
  ·cases h
 | cons e es ih =>
  intro g h hg
  rcases entries_form h with ⟨h,_⟩ | ⟨e',es',v,t,he,rfl,h2,h3,h4⟩
  ·cases h
  ·cases he
   obtain ⟨g1,g2⟩:=hg
   simp only [mput]
   split
   ·exact ⟨⟨g1.1,hu,trivial⟩,g2⟩
   ·exact ⟨g1,ih h4 g2⟩
theorem mdel_holds {h:Array Obj} {I:Nat→Prop} {es:List MapEntry} {key:Value}:∀ {g:G},T.entriesAre es g→T.Holds h I g→T.Holds h I (mdel key g):=by
 induction es with
 | nil =>
  intro g h hg
  rcases entries_form h with ⟨_,rfl⟩ | ⟨_,_,_,_,h,_⟩
  ·exact trivial
  ·cases h
 | cons e es ih =>
  intro g h hg
  rcases entries_form h with ⟨h,_⟩ | ⟨e',es',v,t,he,rfl,h2,h3,h4⟩
  ·cases h
  ·cases he
   obtain ⟨g1,g2⟩:=hg
   simp only [mdel]
   split
   ·exact g2
   ·exact ⟨g1,ih h4 g2⟩
theorem ent_no {key:Value}:∀ {es:List MapEntry} {g:G},T.entriesAre es g→(∀ x∈es,x.key≠key) →
  mfind key g.erase = none∧mdel key g = g∧∀ (u:G) (val:Value) (c:Nat),u.cells = val.cells.toList→aggy u = vAgg val→T.entriesAre (es ++ [⟨key,val,c⟩]) (mput key u g)
 | [],g,h,_=>by
  rcases entries_form h with ⟨_,rfl⟩ | ⟨_,_,_,_,h,_⟩
  ·exact ⟨rfl,rfl,fun u val c h1 h2=>⟨rfl,⟨h1,h2⟩,trivial⟩⟩
  ·cases h
 | e :: es,g,h,hn=>by
  rcases entries_form h with ⟨h,_⟩ | ⟨e',es',v,t,he,rfl,h2,h3,h4⟩
  ·cases h
  ·cases he
   have hne:¬ e.key = key:=hn e List.mem_cons_self
   obtain ⟨q1,q2,q3⟩:=ent_no h4 fun x hx=>hn x (List.mem_cons_of_mem _ hx)
   refine ⟨?_,?_,fun u val c p1 p2=>?_⟩
   ·simp only [T.erase,mfind,T.keyT_erase];rw [if_neg (fun h=>hne (keyT_inj h))];exact q1
   ·simp only [mdel];rw [if_neg (fun h=>hne (keyT_inj h)),q2]
   ·simp only [mput];rw [if_neg (fun h=>hne (keyT_inj h))];exact ⟨rfl,⟨h2,h3⟩,q3 u val c p1 p2⟩
theorem ent_at {key:Value}:∀ {es:List MapEntry} {g:G},T.entriesAre es g→(es.map (·.key)).Nodup→∀ {j:Nat} {e:MapEntry},es[j]? = some e→e.key = key →
  ∃ x:G,mfind key g.erase = some x.erase∧mix key g.erase = j∧j < g.len∧g.nth j = .agg (.cons (keyT key) (.cons x .nil))∧x.cells = e.val.cells.toList∧aggy x = vAgg e.val ∧
   T.entriesAre (es.eraseIdx j) (mdel key g)∧∀ (u:G) (val:Value),u.cells = val.cells.toList→aggy u = vAgg val→T.entriesAre (es.set j { e with key:=key,val:=val }) (mput key u g)
 | [],g,h,_,j,e,hj,_=>by simp at hj
 | e0 :: es,g,h,hn,j,e,hj,hke=>by
  rcases entries_form h with ⟨h,_⟩ | ⟨e',es',v,t,he,rfl,h2,h3,h4⟩
  ·cases h
  ·cases he
   simp only [List.map_cons,List.nodup_cons] at hn
   cases j with
   | zero =>
    simp only [List.getElem?_cons_zero,Option.some.injEq] at hj
    subst hj
    refine ⟨v,?_,?_,by simp [T.len],by simp [T.nth,hke],h2,h3,?_,fun u val q1 q2=>?_⟩
    ·simp only [T.erase,mfind,T.keyT_erase];rw [if_pos (by rw [hke])]
    ·simp only [T.erase,mix,T.keyT_erase];rw [if_pos (by rw [hke])]
    ·simp only [mdel];rw [if_pos (by rw [hke])];exact h4
    ·simp only [mput];rw [if_pos (by rw [hke])];exact ⟨by rw [hke],⟨q1,q2⟩,h4⟩
   | succ j =>
    simp only [List.getElem?_cons_succ] at hj
    have hne:¬ e0.key = key:=fun h=>hn.1 (List.mem_map.2 ⟨e,List.mem_of_getElem? hj,by rw [h];exact hke⟩)
    obtain ⟨x,x1,x2,x3,x4,x5,x6,x7,x8⟩:=ent_at h4 hn.2 hj hke
    refine ⟨x,?_,?_,by simp only [T.len];omega,by simpa [T.nth] using x4,x5,x6,?_,fun u val q1 q2=>?_⟩
    ·simp only [T.erase,mfind,T.keyT_erase];rw [if_neg (fun h=>hne (keyT_inj h))];exact x1
    ·simp only [T.erase,mix,T.keyT_erase];rw [if_neg (fun h=>hne (keyT_inj h)),x2]
    ·simp only [mdel];rw [if_neg (fun h=>hne (keyT_inj h)),List.eraseIdx_cons_succ];exact ⟨rfl,⟨h2,h3⟩,x7⟩
    ·simp only [mput];rw [if_neg (fun h=>hne (keyT_inj h)),List.set_cons_succ];exact ⟨rfl,⟨h2,h3⟩,x8 u val q1 q2⟩
def pairAV (ok b:Bool) (av:AV):AV:=bif ok then .tup (.cons av (.cons (.val (.bool b)) .nil)) else av
def AV.oneAgg:AV→Bool
 | .agg _=>true
 | a=>a.isOne
theorem Rl.oneAgg {h:Array Obj} {I:Nat→Prop} {F:List G} {av:AV} {v:Value} (h1:av.oneAgg = true) (hv:(∃ s,av = .agg s)↔vAgg v = true) (H:Rl h I F av false v.cells.toList):Rl h I F av true [v]:=by
 by_cases ha:∃ s,av = .agg s
 ·obtain ⟨s,rfl⟩:=ha
  have:=hv.1 ⟨s,rfl⟩
  cases v <;> simp only [vAgg] at this <;> first | cases this | skip
  exact ⟨_,by simp [Value.cells],H⟩
 ·have hva:vAgg v = false:=by
   cases hq:vAgg v with
   | false=>rfl
   | true=>exact absurd (hv.2 hq) ha
  rw [cells_one hva] at H
  have h2:av.isOne = true:=by
   cases av <;> first | exact h1 | exact absurd ⟨_,rfl⟩ ha
  obtain ⟨u,e,h3,_⟩:=H.ofOne h2
  cases e;exact h3
def noneVc (τ:Tab) (e:TypeId) (ok:Bool) (K:AV→Prop):Prop :=
 match (τ e).zero with
 | some g=>(AV.ofZ g).oneAgg = true∧K (pairAV ok false (AV.ofZ g))
 | none=>False
def lookVc (τ:Tab) (st:St) (t:TypeId) (x ix:Operand) (ok:Bool) (K:AV→Prop):Prop :=
 match st.ev x,(st.ev ix).key,(τ t).mp with
 | .mp k q,some key,some (e,kd)=>match (st.tree k).at_ q with
  | .map _ _ s=>mkeysOk kd s∧kd.is key∧match mfind key s with
   | some v=>okRow v false = true∧K (pairAV ok true (AV.ofD st.pl k (q ++ [.i (mix key s),.f 1]) 0 v))
   | none=>noneVc τ e ok K
  | _=>False
 | .val (.map none),some key,some (e,kd)=>kd.is key∧noneVc τ e ok K
 | _,_,_=>False
def St.entries (nb:Nat) (st:St) (k:Nat) (s:D) (more:List (Nat×Path)) (X:List D):St where
 env:=st.env.kill ((k,[.i 0]) :: more)
 X:=X.set k (.map true () s)
 κ:=(bif Nat.ble nb k then [] else [(k,[.i 0])]) ++ st.κ
 pl:=plKill ((k,[.i 0]) :: more) st.pl
def updVc (τ:Tab) (nb:Nat) (st:St) (t:TypeId) (m x y:Operand) (K:AV→St→Prop):Prop :=
 match st.ev m,(st.ev x).key,(τ t).mp with
 | .mp k [],some key,some (e,kd)=>match st.X[k]? with
  | some (.map true () s)=>mkeysOk kd s∧kd.is key∧match st.evT τ e y with
   | .mp k2 q=>q = []∧match st.X[k2]? with
    | some (.map true () s2)=>k2≠k∧nb≤k2∧K .bad (st.entries nb k (mput key (.map true () s2) s) [(k2,[])] (st.X.set k2 (.junk ())))
    | _=>False
   | yv=>match yv.flat with
    | some d=>K .bad (st.entries nb k (mput key d s) [] st.X)
    | none=>False
  | _=>False
 | _,_,_=>False
def delVc (τ:Tab) (nb:Nat) (st:St) (t:TypeId) (m x:Operand) (K:AV→St→Prop):Prop :=
 match st.ev m,(st.ev x).key,(τ t).mp with
 | .mp k [],some key,some (_,kd)=>match st.X[k]? with
  | some (.map true () s)=>mkeysOk kd s∧kd.is key∧K (.tup .nil) (st.entries nb k (mdel key s) [] st.X)
  | _=>False
 | _,_,_=>False
def clrVc (τ:Tab) (nb:Nat) (st:St) (t:TypeId) (x:Operand) (K:AV→St→Prop):Prop :=
 match st.ev x,(τ t).sl with
 | .sub k [] lo n _,some (e,z,_,_)=>match st.X[k]?,(τ e).zero with
  | some (.sl true () z' s),some g=>z' = z∧lo + n = s.len ∧
    K (.tup .nil) { env:=st.env.kill [(k,[.i 0])],X:=st.X.set k (.sl true () z ((s.take lo).app (sq0 (List.replicate n g.erase)))),κ:=(bif Nat.ble nb k then [] else [(k,[.i 0])]) ++ st.κ,pl:=plKill [(k,[.i 0])] st.pl }
  | _,_=>False
 | _,_=>False
def zapVc (τ:Tab) (st:St) (t u:TypeId) (x y:Operand) (K:AV→St→Prop):Prop :=
 match st.evT τ t x,st.ev y,(τ t).sl,(τ u).int with
 | .nils _,.val (.int _ n),some (e,z,by_,_),some _=>match (τ e).zero with
  | some g=>0 < n∧n * by_≤140737488355328∧n≤2 ^ 63 - 1∧K (.sub st.X.length [] 0 n.toNat false) { st with X:=st.X ++ [.sl true () z (sq0 (List.replicate n.toNat g.erase))] }
  | none=>False
 | _,_,_,_=>False
def newVc (τ:Tab) (nb:Nat) (o:Op) (st:St) (K:AV→St→Prop):Prop :=
 match o with
 | .lookup t x ix ok=>lookVc τ st t x ix ok fun av=>K av st
 | .makeMap _ r=>r = none∧K (.mp st.X.length []) { st with X:=st.X ++ [.map true () .nil] }
 | .mapUpdate t m x y=>updVc τ nb st t m x y K
 | .makeSlice t x y=>match st.ev x,st.ev y,(τ t).sl with
  | .val (.int _ n),.val (.int _ m),some (e,z,by_,_)=>match (τ e).zero with
   | some g=>n = m∧0≤n∧n * by_≤140737488355328∧n≤2 ^ 63 - 1∧g.width = z∧0 < z∧K (.sub st.X.length [] 0 n.toNat true) { st with X:=st.X ++ [.sl true () z (sq0 (List.replicate n.toNat g.erase))] }
   | none=>False
  | _,_,_=>False
 | .call c=>match c.callee,c.args.toList,c.argTypes.toList with
  | .builtin .clear,[x],[t]=>clrVc τ nb st t x K
  | .builtin .append,[x,y],[t,u]=>zapVc τ st t u x y K
  | .builtin .delete,[x,y],[t,_]=>delVc τ nb st t x y K
  | _,_,_=>False
 | _=>False
theorem Rl.flip {h:Array Obj} {I:Nat→Prop} {F:List G} {av:AV} {v:Value} (h1:av.isOne = true) (H:Rl h I F av false [v]):Rl h I F av true [v]:=by
 cases av <;> simp only [AV.isOne] at h1 <;> first | exact H | cases h1
theorem ofD_agg {pl:List (Nat×Path×AV)} {k:Nat} {q:Path} {g:G} (h:okRow g false = true):(∃ s,AV.ofD pl k q 0 g.erase = .agg s)↔aggy g = true:=by
 have:=ofD_form pl k q g.erase
 constructor
 ·rintro ⟨s,hs⟩
  cases g with
  | agg s=>rfl
  | junk a =>
   have h1:=plLook_form pl k q
   simp only [T.erase,AV.ofD] at hs
   rw [hs] at h1
   rcases h1 with h1 | h1 <;> simp [AV.isOne] at h1
  | sl o a z s'=>cases o <;> simp [T.erase,AV.ofD] at hs
  | box o a s'=>cases o <;> simp [T.erase,AV.ofD] at hs
  | _=>simp [T.erase,AV.ofD] at hs
 ·intro ha
  cases g <;> simp [aggy] at ha
  exact ⟨_,rfl⟩
theorem ofZ_agg {g:G}:(∃ s,AV.ofZ g = .agg s)↔aggy g = true:=by
 cases g <;> simp [AV.ofZ,aggy]
theorem none_ok {c:Cx} {τ:Tab} (hτ:Tab.Ok c.P τ) {e:TypeId} {ok:Bool} {K:AV→Prop} (hv:noneVc τ e ok K) (h:Array Obj) (I:Nat→Prop) (F:List G) :
  ∃ av z,K av∧Rl h I F av true [if ok then .tuple #[z,.bool false] else z]∧∀ w,(zeroValue e).run c.P w = .ok z w:=by
 unfold noneVc at hv
 split at hv
 case h_2=>exact hv.elim
 rename_i g hg
 obtain ⟨hone,hK⟩:=hv
 obtain ⟨z1,inf,z',z2,z3,z4⟩:=(hτ e).zero g hg
 obtain ⟨inf',z'',y2,y3,y4⟩:=(hτ e).zone g hg
 rw [z2] at y2;cases y2
 rw [z3] at y3;cases y3
 have hz:Rl h I F (AV.ofZ g) true [z']:=Rl.oneAgg hone (by rw [ofZ_agg,y4]) (by rw [z4];exact ofZ_rl z1)
 refine ⟨_,z',hK,?_,fun w=>by simp [zeroValue,typeInfo,z2,z3]⟩
 cases ok
 ·exact hz
 ·exact ⟨[z',.bool false],rfl,_,_,rfl,hz,_,_,rfl,⟨rfl,rfl⟩,rfl⟩
theorem look_ok {c:Cx} {τ:Tab} (hτ:Tab.Ok c.P τ) {st:St} {a:Act} {w:World} {I:Nat→Prop} {F:List G} (hi:Inv c st.X st.κ w I F) (he:EnvOk st.env a w I F) (hp:PlOk st.pl w I F) {t:TypeId} {x ix:Operand} {ok:Bool}
  {K:AV→Prop} (hv:lookVc τ st t x ix ok K):∃ av v,K av∧Rl w.heap I F av true [v]∧(Instr.lookup t (a.eval x) (a.eval ix) ok).run c.P w = .ok v w:=by
 unfold lookVc at hv
 split at hv
 case h_3=>exact hv.elim
 case h_2 =>
  rename_i key e kd hx hix hmp
  obtain ⟨hk2,hv⟩:=hv
  have hxv:=he.ev x
  rw [hx] at hxv
  obtain ⟨hxe,_⟩:=hxv
  injection hxe with hxe _
  have hke:=key_ok hix (he.ev ix)
  obtain ⟨kt,hu1,hu2⟩:=(hτ t).mp e kd hmp
  obtain ⟨av,z,h1,h2,h3⟩:=none_ok hτ hv w.heap I F
  refine ⟨av,_,h1,h2,?_⟩
  have hfind:(Instr.findKey kt key []).run c.P w = .ok none w:=by
   rcases hu2.find w hk2 [] (fun e h=>by cases h) with ⟨h,_⟩ | ⟨j,e,_,h,_⟩
   ·exact h
   ·simp at h
  rw [hxe,hke]
  cases ok <;> simp [Instr.lookup,run_underlying hu1,hu2.check _ _ hk2,hfind,h3,Result.andThen]
 rename_i k q key e kd hx hix hmp
 split at hv
 case h_2=>exact hv.elim
 rename_i o _ s hs
 obtain ⟨hk1,hk2,hv⟩:=hv
 have hxv:=he.ev x
 rw [hx] at hxv
 obtain ⟨own,r,z,len,hh,hxe⟩:=hxv
 have hke:=key_ok hix (he.ev ix)
 injection hxe with hxe _
 unfold hdrF at hh
 cases hf:F[k]? with
 | none=>rw [hf] at hh;simp at hh
 | some f =>
  rw [hf] at hh
  simp only [Option.bind_some] at hh
  have hte:(f.at_ q).erase = .map o () s:=by
   rw [T.erase_at,←hs]
   unfold St.tree
   rw [←hi.erase,List.getD_eq_getElem?_getD,List.getElem?_map,hf];rfl
  obtain ⟨a0,s0,hfq,hs0⟩:∃ a0 s0,f.at_ q = .map o a0 s0∧s0.erase = s:=by
   generalize f.at_ q = fq at hte
   cases fq <;> simp only [T.erase] at hte <;> cases hte
   exact ⟨_,_,rfl,rfl⟩
  have hH:=(hi.holds f (List.mem_of_getElem? hf)).at_ q
  rw [hfq] at hH hh
  simp only [hdr,Option.some.injEq,Prod.mk.injEq] at hh
  obtain ⟨_,rfl,_,_⟩:=hh
  obtain ⟨H1,_,_,es,cl,hr,hen,hst⟩:=hH
  obtain ⟨kt,hu1,hu2⟩:=(hτ t).mp e kd hmp
  subst hs0
  rw [hxe,hke]
  have hks:=mkeys_of hen hk1
  rcases hu2.find w hk2 es.toList hks with ⟨f1,f2⟩ | ⟨j,en,f1,f2,f3⟩
  ·rw [(ent_no hen f2).1] at hv
   obtain ⟨av,z,h1,h2,h3⟩:=none_ok hτ hv w.heap I F
   refine ⟨av,_,h1,h2,?_⟩
   cases ok <;> simp [Instr.lookup,run_underlying hu1,MapKept.run_getObj_map hr,hu2.check _ _ hk2,f1,h3,Result.andThen]
  ·obtain ⟨x,x1,x2,x3,x4,x5,x6,_⟩:=ent_at hen hst.2.2 f2 f3
   rw [x1,x2] at hv
   obtain ⟨hrow,hK⟩:=hv
   rw [okRow_erase] at hrow
   have hHx:T.Holds w.heap I x:=by
    have:=T.Holds.nth H1 j
    rw [x4] at this
    exact this.2.1
   have hat:f.at_ (q ++ [.i j,.f 1]) = x:=by
    rw [T.at_append,hfq]
    simp only [T.at_,x4,T.nth]
   have hrl:=ofD_rl hp hf x false (q ++ [.i j,.f 1]) 0 hrow hHx (fun _=>hat) (fun h=>by cases h)
   rw [x5] at hrl
   have hform:=ofD_form st.pl k (q ++ [.i j,.f 1]) x.erase
   have hz:Rl w.heap I F (AV.ofD st.pl k (q ++ [.i j,.f 1]) 0 x.erase) true [en.val]:=by
    by_cases ha:aggy x = true
    ·have hva:=ha;rw [x6] at hva
     obtain ⟨s',hs'⟩:=(ofD_agg (pl:=st.pl) (k:=k) (q:=q ++ [.i j,.f 1]) hrow).2 ha
     rw [hs'] at hrl ⊢
     cases hval:en.val <;> rw [hval] at hva hrl <;> simp only [vAgg] at hva <;> first | cases hva | skip
     exact ⟨_,by simp [Value.cells],hrl⟩
    ·have hva:vAgg en.val = false:=by rw [←x6];simpa using ha
     rw [cells_one hva] at hrl
     rcases hform.2 (fun s' hs'=>ha (by cases x <;> simp [T.erase] at hs';rfl)) (by rw [okRow_erase];exact hrow) with h1 | h1
     ·exact Rl.flip h1 hrl
     ·rw [h1];exact ⟨_,rfl⟩
   refine ⟨_,if ok then .tuple #[en.val,.bool true] else en.val,hK,?_,?_⟩
   ·cases ok
    ·exact hz
    ·exact ⟨[en.val,.bool true],rfl,_,_,rfl,hz,_,_,rfl,⟨rfl,rfl⟩,rfl⟩
   ·cases ok <;> simp [Instr.lookup,run_underlying hu1,MapKept.run_getObj_map hr,hu2.check _ _ hk2,f1,Result.andThen]
theorem sq0_uni {z:Nat} {x:G} (h:x.width = z):∀ n,(sq0 (List.replicate n x)).uni z
 | 0=>trivial
 | n + 1=>⟨h,sq0_uni h n⟩
theorem sq0_len {α:Type} (x:T α):∀ n,(sq0 (List.replicate n x)).len = n
 | 0=>rfl
 | n + 1=>by simp [List.replicate_succ,sq0,T.len,sq0_len x n]
theorem sq0_cells (x:G):∀ n,(sq0 (List.replicate n x)).cells = (List.replicate n x.cells).flatten
 | 0=>rfl
 | n + 1=>by simp [List.replicate_succ,sq0,T.cells,sq0_cells x n]
theorem sq0_holds {h:Array Obj} {I:Nat→Prop} {x:G} (hx:T.Holds h I x):∀ n,T.Holds h I (sq0 (List.replicate n x))
 | 0=>trivial
 | n + 1=>⟨hx,sq0_holds hx n⟩
theorem sq0_owned {x:G} (hx:x.owned = []):∀ n,(sq0 (List.replicate n x)).owned = []
 | 0=>rfl
 | n + 1=>by simp [List.replicate_succ,sq0,T.owned,hx,sq0_owned hx n]
theorem sq0_erase (x:G):∀ n,(sq0 (List.replicate n x)).erase = sq0 (List.replicate n x.erase)
 | 0=>rfl
 | n + 1=>by simp [List.replicate_succ,sq0,T.erase,sq0_erase x n]
theorem erase_take (s:G) (k:Nat):(s.take k).erase = s.erase.take k:=by
 induction k generalizing s with
 | zero=>cases s <;> simp [T.take,T.erase]
 | succ k ih=>cases s <;> simp [T.take,T.erase,ih]
theorem mpre_i0 {q:Path}:(q = []∨(∃ st q',q = st :: q'∧∀ k,st≠.i k))∨∃ k q',q = .i k :: q':=by
 cases q with
 | nil=>exact .inl (.inl rfl)
 | cons st q=>cases st <;> first | exact .inr ⟨_,_,rfl⟩ | exact .inl (.inr ⟨_,_,rfl,fun k h=>by cases h⟩)
theorem map_root {c:Cx} {st:St} {a:Act} {w:World} {I:Nat→Prop} {F:List G} (hi:Inv c st.X st.κ w I F) (he:EnvOk st.env a w I F) {m:Operand} {k:Nat} {s:D} (hm:st.ev m = .mp k []) (hX:st.X[k]? = some (.map true () s)) :
  ∃ r g0 es cl,a.eval m = .map (some r)∧F[k]? = some (.map true (.map (some r)) g0)∧g0.erase = s∧T.Holds w.heap I g0∧w.heap[r]? = some (.map es cl)∧T.entriesAre es.toList g0∧MapKept.Stamped es cl:=by
 have hmv:=he.ev m
 rw [hm] at hmv
 obtain ⟨ow,r,z,len,hh,hme⟩:=hmv
 injection hme with hme _
 unfold hdrF at hh
 cases hf:F[k]? with
 | none=>rw [hf] at hh;simp at hh
 | some f =>
  rw [hf] at hh
  simp only [Option.bind_some,T.at_] at hh
  have hte:f.erase = .map true () s:=by
   have:=hX
   rw [←hi.erase,List.getElem?_map,hf] at this
   simpa using this
  obtain ⟨a0,g0,rfl,hg0⟩:∃ a0 g0,f = .map true a0 g0∧g0.erase = s:=by
   cases f <;> simp only [T.erase] at hte <;> cases hte
   exact ⟨_,_,rfl,rfl⟩
  have hH:=hi.holds _ (List.mem_of_getElem? hf)
  simp only [hdr,Option.some.injEq,Prod.mk.injEq] at hh
  obtain ⟨_,rfl,_,_⟩:=hh
  obtain ⟨H1,_,_,es,cl,hr,hen,hst⟩:=id hH
  exact ⟨r,g0,es,cl,hme,rfl,hg0,H1,hr,hen,hst⟩
theorem Rel.entries {c:Cx} {st:St} {a:Act} {w:World} {I:Nat→Prop} {F:List G} (hd:Dfs c.w0.heap.size a.defers w) (hs:a.tmps.size = c.nt) (hi:Inv c st.X st.κ w I F) (he:EnvOk st.env a w I F) (hp:PlOk st.pl w I F)
  {k r:Nat} {g0 g1:G} {es es':Array MapEntry} {cl cl':Nat} (hf:F[k]? = some (.map true (.map (some r)) g0)) (hr:w.heap[r]? = some (.map es cl)) (hen':T.entriesAre es'.toList g1) (hst':MapKept.Stamped es' cl') {more:List (Nat×Path)} {X:List D}
  (hmore:(more = []∧X = st.X∧∀ b,g1.owned.count b≤g0.owned.count b)∨∃ k2 gx,more = [(k2,[])]∧X = st.X.set k2 (.junk ())∧F[k2]? = some gx∧k2≠k∧c.F0.length≤k2∧isNode gx = true∧∀ b,g1.owned.count b≤g0.owned.count b + gx.owned.count b)
  (hg1:T.Holds ({ w with heap:=w.heap.setIfInBounds r (.map es' cl') }:World).heap I g1) :
  ∃ F',Dfs c.w0.heap.size a.defers { w with heap:=w.heap.setIfInBounds r (.map es' cl') }∧a.tmps.size = c.nt∧Inv c (st.entries c.F0.length k g1.erase more X).X (st.entries c.F0.length k g1.erase more X).κ { w with heap:=w.heap.setIfInBounds r (.map es' cl') } I F' ∧
   EnvOk (st.entries c.F0.length k g1.erase more X).env a { w with heap:=w.heap.setIfInBounds r (.map es' cl') } I F'∧PlOk (st.entries c.F0.length k g1.erase more X).pl { w with heap:=w.heap.setIfInBounds r (.map es' cl') } I F':=by
 have hrl:r < w.heap.size:=(Array.getElem?_eq_some_iff.1 hr).1
 have hw':({ w with heap:=w.heap.setIfInBounds r (.map es' cl') }:World).heap[r]? = some (.map es' cl'):=by simp [hrl]
 have hother:∀ b,b≠r→({ w with heap:=w.heap.setIfInBounds r (.map es' cl') }:World).heap[b]? = w.heap[b]?:=fun b hb=>by simp [Array.getElem?_setIfInBounds_ne (Ne.symm hb)]
 have hmem:r∈(T.map true (.map (some r)) g0:G).owned:=by simp [T.owned,blk]
 have l1:∀ q,dead [(k,[.i 0])] k q false = false→(T.map true (.map (some r)) g1:G).loc q = (T.map true (.map (some r)) g0:G).loc q:=fun q hq=>by
  rcases mpre_i0 (q:=q) with (rfl | ⟨s1,q',rfl,hs1⟩) | ⟨i,q',rfl⟩
  ·simp [T.loc]
  ·cases s1 <;> first | exact absurd rfl (hs1 _) | simp [T.loc]
  ·rw [dead_one] at hq
   simp only [mpre,Bool.true_and,Bool.false_or,decide_eq_false_iff_not,List.length_cons,List.length_nil,Nat.zero_add,Bool.and_eq_false_iff] at hq
   cases q' with
   | cons _ _=>simp at hq
   | nil=>simp only [T.loc];split <;> split <;> first | rfl | (simp [T.loc])
 have l2:∀ q,dead [(k,[.i 0])] k q true = false→hdr ((T.map true (.map (some r)) g1:G).at_ q) = hdr ((T.map true (.map (some r)) g0:G).at_ q):=fun q hq=>by
  rcases mpre_i0 (q:=q) with (rfl | ⟨s1,q',rfl,hs1⟩) | ⟨i,q',rfl⟩
  ·simp [T.at_,hdr]
  ·cases s1 <;> first | exact absurd rfl (hs1 _) | simp [T.at_]
  ·rw [dead_one] at hq;simp [mpre] at hq
 have l3:∀ q v,(T.map true (.map (some r)) g0:G).at_ q = .junk v→dead [(k,[.i 0])] k q true = false→(T.map true (.map (some r)) g1:G).at_ q = .junk v:=fun q v hj hq=>by
  rcases mpre_i0 (q:=q) with (rfl | ⟨s1,q',rfl,hs1⟩) | ⟨i,q',rfl⟩
  ·simp [T.at_] at hj
  ·cases s1 <;> first | exact absurd rfl (hs1 _) | simp [T.at_] at hj
  ·rw [dead_one] at hq;simp [mpre] at hq
 have hg2:T.Holds ({ w with heap:=w.heap.setIfInBounds r (.map es' cl') }:World).heap I (.map true (.map (some r)) g1):=⟨hg1,(by intro h;cases h),(by intro h;cases h),es',cl',hw',hen',hst'⟩
 rcases hmore with ⟨rfl,rfl,ho⟩ | ⟨k2,gx,rfl,rfl,hk2,hne,hb,hnode,ho⟩
 ·have S:=Stp.turn hi hf (g2:=.map true (.map (some r)) g1) (w':={ w with heap:=w.heap.setIfInBounds r (.map es' cl') }) hg2 rfl
   (fun b=>by have:=ho b;simp only [T.owned,List.count_append];omega) (fun b hb=>hother b fun e=>hb (e ▸ hmem)) (by simp) rfl rfl rfl (κ1:=[(k,[.i 0])]) l1 l2 l3
  refine ⟨F.set k (.map true (.map (some r)) g1),hd.step hi S,hs,?_,he.step hi S,hp.step hi S⟩
  have h1:=hi.step S
  rw [List.map_set,hi.erase] at h1
  simp only [T.erase] at h1
  simp only [St.entries]
  cases hn:Nat.ble c.F0.length k with
  | false=>simpa [hn] using h1
  | true =>
   have hkn:=Nat.le_of_ble_eq_true hn
   have:=h1.unkill fun k' q s hlt=>by simp [dead,show (k' == k) = false by simp;omega]
   simpa [hn] using this
 ·obtain ⟨a2,ha2,hone⟩:=node_head (hi.holds gx (List.mem_of_getElem? hk2)) hnode
  have S:=Stp.turnIn hi hf hk2 hne hb hone (g2:=.map true (.map (some r)) g1) (w':={ w with heap:=w.heap.setIfInBounds r (.map es' cl') }) hg2 rfl
   (fun b=>by have:=ho b;simp only [T.owned,List.count_append];omega) (fun b hb=>hother b fun e=>hb (e ▸ hmem)) (by simp) rfl rfl rfl (κ1:=[(k,[.i 0])]) l1 l2 l3
  refine ⟨_,hd.step hi S,hs,?_,he.step hi S,hp.step hi S⟩
  have h1:=hi.step S
  rw [List.map_set,List.map_set,hi.erase] at h1
  simp only [T.erase] at h1
  simp only [St.entries]
  cases hn:Nat.ble c.F0.length k with
  | false =>
   have h2:=h1.rekill (κ':=[(k,[.i 0])] ++ st.κ) fun k' q s hlt hd=>by
    rw [dead_append,dead_append]
    rw [dead_append] at hd
    simp only [Bool.or_eq_false_iff] at hd ⊢
    exact ⟨⟨hd.1,by simp [dead,show (k' == k2) = false by simp;omega]⟩,hd.2⟩
   simpa [hn] using h2
  | true =>
   have hkn:=Nat.le_of_ble_eq_true hn
   have:=h1.unkill fun k' q s hlt=>by simp [dead,show (k' == k) = false by simp;omega,show (k' == k2) = false by simp;omega]
   simpa [hn] using this
theorem modify_set {es:Array MapEntry} {j:Nat} {en:MapEntry} (hj:es[j]? = some en) (f:MapEntry→MapEntry):(es.modify j f).toList = es.toList.set j (f en):=by
 apply List.ext_getElem?
 intro i
 rw [Array.getElem?_toList,Array.getElem?_modify,List.getElem?_set]
 by_cases hij:j = i
 ·subst hij
  obtain ⟨hl,he'⟩:=Array.getElem?_eq_some_iff.1 hj
  simp [hl,he']
 ·simp [hij]
theorem run_upd {c:Cx} {τ:Tab} (hτ:Tab.Ok c.P τ) {t:TypeId} {e:TypeId} {kd:KK} (hmp:(τ t).mp = some (e,kd)) {w:World} {r:Nat} {es:Array MapEntry} {cl:Nat} (hr:w.heap[r]? = some (.map es cl)) {g0 u:G} {key val:Value}
  (hen:T.entriesAre es.toList g0) (hst:MapKept.Stamped es cl) (hk1:mkeysOk kd g0.erase) (hk2:kd.is key) (hu1:u.cells = val.cells.toList) (hu2:aggy u = vAgg val) :
  ∃ es' cl',(Instr.mapUpdate t (.map (some r)) key val).run c.P w = .ok () { w with heap:=w.heap.setIfInBounds r (.map es' cl') }∧T.entriesAre es'.toList (mput key u g0)∧MapKept.Stamped es' cl':=by
 obtain ⟨kt,hv1,hv2⟩:=(hτ t).mp e kd hmp
 rcases hv2.find w hk2 es.toList (mkeys_of hen hk1) with ⟨f1,f2⟩ | ⟨j,en,f1,f2,f3⟩
 ·refine ⟨es.push ⟨key,val,cl⟩,cl + 1,?_,by rw [Array.toList_push];exact (ent_no hen f2).2.2 u val cl hu1 hu2,MapKept.stamped_push hst f2⟩
  simp [Instr.mapUpdate,run_underlying hv1,MapKept.run_getObj_map hr,hv2.check _ _ hk2,f1,MapKept.run_setObj_map _ hr,Result.andThen]
 ·have hj:es[j]? = some en:=by simpa using f2
  refine ⟨es.modify j (fun e'=>{ e' with key:=key,val:=val }),cl,?_,?_,MapKept.stamped_modify hst _ _ (fun _ _=>rfl) fun e' _ he'=>by rw [hj] at he';cases he';exact f3.symm⟩
  ·simp [Instr.mapUpdate,run_underlying hv1,MapKept.run_getObj_map hr,hv2.check _ _ hk2,f1,hj,f3,hv2.stays _ hk2,MapKept.run_setObj_map _ hr,Result.andThen]
  ·obtain ⟨_,_,_,_,_,_,_,_,hput⟩:=ent_at hen hst.2.2 f2 f3
   rw [modify_set hj]
   exact hput u val hu1 hu2
theorem upd_ok {c:Cx} {τ:Tab} (hτ:Tab.Ok c.P τ) {st:St} {a:Act} {w:World} (h:Rel c st a w) {t:TypeId} {m x y:Operand} {K:AV→St→Prop} (hv:updVc τ c.F0.length st t m x y K) :
  ∃ av st' w',K av st'∧(Instr.mapUpdate t (a.eval m) (a.eval x) (a.eval y)).run c.P w = .ok () w'∧RelR c st' av undef a w':=by
 obtain ⟨hd,hs,I,F,hi,he,hp⟩:=h
 unfold updVc at hv
 split at hv
 case h_2=>exact hv.elim
 rename_i k key e kd hm hx hmp
 split at hv
 case h_2=>exact hv.elim
 rename_i s hs0
 obtain ⟨hk1,hk2,hv⟩:=hv
 obtain ⟨r,g0,es,cl,hme,hf,rfl,H1,hr,hen,hst⟩:=map_root hi he hm hs0
 have hke:=key_ok hx (he.ev x)
 have hrl:r < w.heap.size:=(Array.getElem?_eq_some_iff.1 hr).1
 have hmem:r∈(T.map true (.map (some r)) g0:G).owned:=by simp [T.owned,blk]
 have hrF:r∈own F:=own_mem hf hmem
 have hno:∀ b∈g0.owned,b≠r:=fun b hb e=>by
  have h1:=count_le_one hi.nodup r
  have h2:=own_one_of' hf r
  subst e
  simp only [T.owned,blk,List.count_append,List.count_singleton_self] at h2
  rw [mem_of_count] at hb
  omega
 have hother:∀ (o:Obj) (b:Nat),b≠r→({ w with heap:=w.heap.setIfInBounds r o }:World).heap[b]? = w.heap[b]?:=fun o b hb=>by simp [Array.getElem?_setIfInBounds_ne (Ne.symm hb)]
 have hg0':∀ o,T.Holds ({ w with heap:=w.heap.setIfInBounds r o }:World).heap I g0:=fun o=>H1.agree (fun b hb=>hother o b (hno b hb)) (fun b hb=>hother o b fun e=>hi.apart r hrF (e ▸ hb)) fun _ h=>h
 split at hv
 · -- a map moves in
  rename_i k2 q hy
  obtain ⟨rfl,hv⟩:=hv
  split at hv
  case h_2=>exact hv.elim
  rename_i s2 hs2
  obtain ⟨hne,hb,hv⟩:=hv
  have hyv:=he.evT (τ:=τ) e y
  rw [hy] at hyv
  obtain ⟨ow,r2,z,len,hh,hye⟩:=hyv
  injection hye with hye _
  unfold hdrF at hh
  cases hf2:F[k2]? with
  | none=>rw [hf2] at hh;simp at hh
  | some f2 =>
   rw [hf2] at hh
   simp only [Option.bind_some,T.at_] at hh
   have hte:f2.erase = .map true () s2:=by
    have:=hs2
    rw [←hi.erase,List.getElem?_map,hf2] at this
    simpa using this
   obtain ⟨a0,g2,rfl,hg2⟩:∃ a0 g2,f2 = .map true a0 g2∧g2.erase = s2:=by
    cases f2 <;> simp only [T.erase] at hte <;> cases hte
    exact ⟨_,_,rfl,rfl⟩
   simp only [hdr,Option.some.injEq,Prod.mk.injEq] at hh
   obtain ⟨_,rfl,_,_⟩:=hh
   have hH2:=hi.holds _ (List.mem_of_getElem? hf2)
   have hr2:∀ b∈(T.map true (.map (some r2)) g2:G).owned,b≠r:=fun b hb e=>by
    have h1:=count_le_one hi.nodup r
    have h2:=own_one_of' hf r
    have h3:=count_other hf2 hf hne b
    subst e
    simp only [T.owned,blk,List.count_append,List.count_singleton_self] at h2 h3
    rw [mem_of_count] at hb
    simp only [T.owned,blk,List.count_append] at hb
    omega
   obtain ⟨es',cl',hrun,hen',hst'⟩:=run_upd hτ hmp hr (u:=.map true (.map (some r2)) g2) (val:=a.eval y) hen hst hk1 hk2 (by rw [hye];rfl) (by rw [hye];rfl)
   have hu':T.Holds ({ w with heap:=w.heap.setIfInBounds r (.map es' cl') }:World).heap I (.map true (.map (some r2)) g2):=hH2.agree (fun b hb=>hother _ b (hr2 b hb)) (fun b hb=>hother _ b fun e=>hi.apart r hrF (e ▸ hb)) fun _ h=>h
   obtain ⟨F',q1,q2,q3,q4,q5⟩:=Rel.entries hd hs hi he hp hf hr hen' hst' (more:=[(k2,[])]) (X:=st.X.set k2 (.junk ())) (.inr ⟨k2,_,rfl,rfl,hf2,hne,hb,rfl,fun b=>mput_owned b hen⟩) (mput_holds hk2 hu' hen (hg0' _))
   rw [mput_erase hen] at q3 q4 q5
   simp only [T.erase,hg2] at q3 q4 q5
   exact ⟨_,_,_,hv,by rw [hme,hke];exact hrun,q1,q2,I,F',q3,q4,q5,_,rfl⟩
 ·split at hv
  case h_2=>exact hv.elim
  rename_i d hfl
  obtain ⟨u,hu1,hu2,hu3,hu4,hu5⟩:=flat_ok (he.evT (τ:=τ) e y) hfl
  obtain ⟨es',cl',hrun,hen',hst'⟩:=run_upd hτ hmp hr (u:=u) (val:=a.eval y) hen hst hk1 hk2 hu2 hu5
  have hu':T.Holds ({ w with heap:=w.heap.setIfInBounds r (.map es' cl') }:World).heap I u:=hu3.agree (by rw [hu4];simp) (fun b hb=>hother _ b fun e=>hi.apart r hrF (e ▸ hb)) fun _ h=>h
  obtain ⟨F',q1,q2,q3,q4,q5⟩:=Rel.entries hd hs hi he hp hf hr hen' hst' (more:=[]) (X:=st.X) (.inl ⟨rfl,rfl,fun b=>by have:=mput_owned (key:=key) (u:=u) b hen;rw [hu4] at this;simpa using this⟩) (mput_holds hk2 hu' hen (hg0' _))
  rw [mput_erase hen,hu1] at q3 q4 q5
  exact ⟨_,_,_,hv,by rw [hme,hke];exact hrun,q1,q2,I,F',q3,q4,q5,_,rfl⟩
theorem del_ok {c:Cx} {τ:Tab} (hτ:Tab.Ok c.P τ) {st:St} {a:Act} {w:World} (h:Rel c st a w) {t u ty:TypeId} {m x:Operand} {K:AV→St→Prop} (hv:delVc τ c.F0.length st t m x K) :
  ∃ av st' w',K av st'∧(Builtin.delete_ #[t,u] ty #[a.eval m,a.eval x]).run c.P w = .ok (.tuple #[]) w'∧RelR c st' av (.tuple #[]) a w':=by
 obtain ⟨hd,hs,I,F,hi,he,hp⟩:=h
 unfold delVc at hv
 split at hv
 case h_2=>exact hv.elim
 rename_i k key e kd hm hx hmp
 split at hv
 case h_2=>exact hv.elim
 rename_i s hs0
 obtain ⟨hk1,hk2,hv⟩:=hv
 obtain ⟨r,g0,es,cl,hme,hf,rfl,H1,hr,hen,hst⟩:=map_root hi he hm hs0
 have hke:=key_ok hx (he.ev x)
 obtain ⟨kt,hv1,hv2⟩:=(hτ t).mp e kd hmp
 have hmem:r∈(T.map true (.map (some r)) g0:G).owned:=by simp [T.owned,blk]
 have hrF:r∈own F:=own_mem hf hmem
 have hno:∀ b∈g0.owned,b≠r:=fun b hb e=>by
  have h1:=count_le_one hi.nodup r
  have h2:=own_one_of' hf r
  subst e
  simp only [T.owned,blk,List.count_append,List.count_singleton_self] at h2
  rw [mem_of_count] at hb
  omega
 have hother:∀ (o:Obj) (b:Nat),b≠r→({ w with heap:=w.heap.setIfInBounds r o }:World).heap[b]? = w.heap[b]?:=fun o b hb=>by simp [Array.getElem?_setIfInBounds_ne (Ne.symm hb)]
 have hg0':∀ o,T.Holds ({ w with heap:=w.heap.setIfInBounds r o }:World).heap I g0:=fun o=>H1.agree (fun b hb=>hother o b (hno b hb)) (fun b hb=>hother o b fun e=>hi.apart r hrF (e ▸ hb)) fun _ h=>h
 obtain ⟨es',hrun,hen',hst'⟩:∃ es',(Builtin.delete_ #[t,u] ty #[.map (some r),key]).run c.P w = .ok (.tuple #[]) { w with heap:=w.heap.setIfInBounds r (.map es' cl) }∧T.entriesAre es'.toList (mdel key g0)∧MapKept.Stamped es' cl:=by
  rcases hv2.find w hk2 es.toList (mkeys_of hen hk1) with ⟨f1,f2⟩ | ⟨j,en,f1,f2,f3⟩
  ·refine ⟨es,?_,by rw [(ent_no hen f2).2.1];exact hen,hst⟩
   simp [Builtin.delete_,run_underlying hv1,MapKept.run_getObj_map hr,hv2.check _ _ hk2,f1,MapKept.run_setObj_map _ hr,Result.andThen]
  ·obtain ⟨_,_,_,_,_,_,_,hdel,_⟩:=ent_at hen hst.2.2 f2 f3
   have hjl:j < es.toList.length:=(List.getElem?_eq_some_iff.1 f2).1
   have hjs:j < es.size:=by simpa using hjl
   have hsub:(es.eraseIdxIfInBounds j).toList = es.toList.eraseIdx j:=by
    unfold Array.eraseIdxIfInBounds
    rw [dif_pos hjs]
    simp
   refine ⟨es.eraseIdxIfInBounds j,?_,by rw [hsub];exact hdel,MapKept.stamped_erase hst j⟩
   simp [Builtin.delete_,run_underlying hv1,MapKept.run_getObj_map hr,hv2.check _ _ hk2,f1,MapKept.run_setObj_map _ hr,Result.andThen]
 obtain ⟨F',q1,q2,q3,q4,q5⟩:=Rel.entries hd hs hi he hp hf hr hen' hst' (more:=[]) (X:=st.X) (.inl ⟨rfl,rfl,fun b=>mdel_owned b hen⟩) (mdel_holds hen (hg0' _))
 rw [mdel_erase hen] at q3 q4 q5
 exact ⟨_,_,_,hv,by rw [hme,hke];exact hrun,q1,q2,I,F',q3,q4,q5,[],rfl,rfl⟩
theorem take_all {z:Nat} {s:G} (hs:s.uni z):∀ {k:Nat},s.len≤k→s.take k = s:=by
 induction s with
 | nil=>intro k _;cases k <;> rfl
 | cons a t _ iht =>
  intro k hk
  cases k with
  | zero=>simp [T.len] at hk
  | succ k=>simp only [T.take];rw [iht hs.2 (by simpa [T.len] using hk)]
 | _=>exact hs.elim
theorem Rel.newRoot {c:Cx} {st:St} {a:Act} {w:World} {I:Nat→Prop} {F:List G} (hd:Dfs c.w0.heap.size a.defers w) (hs:a.tmps.size = c.nt) (hi:Inv c st.X st.κ w I F) (he:EnvOk st.env a w I F) (hp:PlOk st.pl w I F)
  {o:Obj} {g':G} (hg:T.Holds (w.alloc o).heap I g') (hc:∀ b,b≠w.heap.size→g'.owned.count b = 0) (hc1:g'.owned.count w.heap.size≤1) :
  F.length = st.X.length∧Inv c (st.X ++ [g'.erase]) st.κ (w.alloc o) I (F ++ [g'])∧EnvOk st.env a (w.alloc o) I (F ++ [g'])∧PlOk st.pl (w.alloc o) I (F ++ [g']):=by
 have L:Laid w.heap I c.F0.length [] F F (.nil:G) [] ⟨.nil,st.X,[],[]⟩:=⟨hi.erase,rfl,rfl,trivial,hi.holds,fun b=>by simp [T.owned],KeepR.refl _ F,fun q av hm=>by cases hm⟩
 obtain ⟨g1,g2,g3,g4,_⟩:=Rel.allocLay (o:=o) (g':=g') (φ:=id) (d:=g'.erase) hd hs hi he hp L (fun k q s _=>by simp [dead]) hg (fun b hb=>by rw [hc b hb];omega) hc1
  (fun q v hq=>by simp [plAt,isSeq] at hq;cases q with
   | nil=>simp [T.at_] at hq
   | cons st q=>cases st <;> (simp [T.at_,T.nth] at hq;try (cases q with | nil=>simp [T.at_] at hq | cons st' q'=>cases st' <;> simp [T.at_] at hq))) rfl
 refine ⟨g1,g2,fun t=>?_,fun k q av hm=>g4 k q av ?_⟩
 ·have:=g3 t
  rw [AV.kill_nil'] at this
  exact this
 ·simp only [St.push,St.moved,List.filter_nil,List.map_nil,List.append_nil,plKill]
  rw [List.mem_filter]
  exact ⟨hm,by simp [dead,AV.dies_nil]⟩
theorem clr_ok {c:Cx} {τ:Tab} (hτ:Tab.Ok c.P τ) {st:St} {a:Act} {w:World} (h:Rel c st a w) {t ty:TypeId} {x:Operand} {K:AV→St→Prop} (hv:clrVc τ c.F0.length st t x K) :
  ∃ av st' w',K av st'∧(Builtin.clear_ #[t] ty #[a.eval x]).run c.P w = .ok (.tuple #[]) w'∧RelR c st' av (.tuple #[]) a w':=by
 obtain ⟨hd,hs,I,F,hi,he,hp⟩:=h
 unfold clrVc at hv
 split at hv
 case h_2=>exact hv.elim
 rename_i k lo n ex e z by_ zv hx ht
 split at hv
 case h_2=>exact hv.elim
 rename_i z' s g hX hg
 obtain ⟨rfl,hlen,hK⟩:=hv
 have hxv:=he.ev x
 rw [hx] at hxv
 obtain ⟨ow,a0,z0,len,v,hh,hxe,hsub⟩:=hxv
 injection hxe with hxe _
 obtain ⟨u1,inf,u2,u3,u4,u5,u6⟩:=(hτ t).sl _ _ _ _ ht
 obtain ⟨z1,inf',zz,z2,z3,z4⟩:=(hτ e).zero g hg
 rw [u2] at z2;cases z2
 rw [u3] at z3;cases z3
 have hgw:g.width = z':=by rw [←T.cells_length,←z4,Array.length_toList,u6]
 unfold hdrF at hh
 cases hf:F[k]? with
 | none=>rw [hf] at hh;simp at hh
 | some f =>
  rw [hf] at hh
  simp only [Option.bind_some,T.at_] at hh
  have hte:f.erase = .sl true () z' s:=by
   have:=hX
   rw [←hi.erase,List.getElem?_map,hf] at this
   simpa using this
  obtain ⟨a1,s0,rfl,hs0⟩:∃ a1 s0,f = .sl true a1 z' s0∧s0.erase = s:=by
   cases f <;> simp only [T.erase] at hte <;> cases hte
   exact ⟨_,_,rfl,rfl⟩
  have hH:=hi.holds _ (List.mem_of_getElem? hf)
  simp only [hdr,Option.some.injEq,Prod.mk.injEq] at hh
  obtain ⟨_,rfl,rfl,rfl⟩:=hh
  subst hs0
  have hlen':lo + n = s0.len:=by rw [hlen,T.erase_len]
  obtain ⟨H1,H2,_,H4⟩:=id hH
  obtain ⟨A,cap,rfl,hs1,hs2,hs3,_,hs5⟩:=hsub
  have step:∀ w':World,w'.heap.size = w.heap.size→w'.os = w.os→w'.tape = w.tape→w'.output = w.output →
    (∀ b,b∉(T.sl true a1 z' s0:G).owned→w'.heap[b]? = w.heap[b]?)→T.Holds w'.heap I (.sl true a1 z' ((s0.take lo).app (sq0 (List.replicate n g)))) →
    (Builtin.clear_ #[t] ty #[a.eval x]).run c.P w = .ok (.tuple #[]) w' →
    ∃ av st' w',K av st'∧(Builtin.clear_ #[t] ty #[a.eval x]).run c.P w = .ok (.tuple #[]) w'∧RelR c st' av (.tuple #[]) a w':=fun w' q1 q2 q3 q4 q5 q6 q7=>by
   have hlen2:((s0.take lo).app (sq0 (List.replicate n g))).len = s0.len:=by rw [T.len_app,T.len_take,sq0_len];omega
   have S:=Stp.turn hi hf (g2:=.sl true a1 z' ((s0.take lo).app (sq0 (List.replicate n g)))) q6 rfl
    (fun b=>by
     have h1:=(T.owned_take s0 lo).count_le b
     simp only [T.owned,List.count_append]
     rw [T.owned_app (T.uni_take H2 lo),sq0_owned (zeroish_holds z1 w.heap I).2]
     simp only [List.append_nil];omega)
    q5 q1 q2 q3 q4 (κ1:=[(k,[])])
    (fun q hq=>by
     cases q with
     | nil=>rfl
     | cons _ _=>rw [dead_one] at hq;simp [mpre] at hq)
    (fun q hq=>by rw [dead_one] at hq;simp [mpre] at hq)
    (fun q v _ hq=>by rw [dead_one] at hq;simp [mpre] at hq)
   have S2:Stp w w' I I F (F.set k (.sl true a1 z' ((s0.take lo).app (sq0 (List.replicate n g))))) [(k,[.i 0])] c.F0.length:={ S with
    keep:=fun j g' hg'=>by
     by_cases ej:j = k
     ·subst ej
      rw [hf] at hg';cases hg'
      refine ⟨_,List.getElem?_set_self (List.getElem?_eq_some_iff.1 hf).1,fun _=>rfl,fun q hq=>?_,fun q hq=>?_,fun q v hj hq=>?_⟩
      ·rcases mpre_i0 (q:=q) with (rfl | ⟨s1,q',rfl,hs1⟩) | ⟨i,q',rfl⟩
       ·rfl
       ·cases s1 <;> first | exact absurd rfl (hs1 _) | simp [T.loc]
       ·cases q' with
        | nil=>simp only [T.loc,hlen2]
        | cons _ _=>rw [dead_one] at hq;simp [mpre] at hq
      ·rcases mpre_i0 (q:=q) with (rfl | ⟨s1,q',rfl,hs1⟩) | ⟨i,q',rfl⟩
       ·simp [T.at_,hdr,hlen2]
       ·cases s1 <;> first | exact absurd rfl (hs1 _) | simp [T.at_]
       ·rw [dead_one] at hq;simp [mpre] at hq
      ·rcases mpre_i0 (q:=q) with (rfl | ⟨s1,q',rfl,hs1⟩) | ⟨i,q',rfl⟩
       ·simp [T.at_] at hj
       ·cases s1 <;> first | exact absurd rfl (hs1 _) | simp [T.at_] at hj
       ·rw [dead_one] at hq;simp [mpre] at hq
     ·exact ⟨g',by rw [List.getElem?_set_ne (Ne.symm ej)];exact hg',fun _=>rfl,fun _ _=>rfl,fun _ _=>rfl,fun _ _ h _=>h⟩ }
   refine ⟨_,_,w',hK,q7,hd.step hi S2,hs,I,_,?_,he.step hi S2,hp.step hi S2,[],rfl,rfl⟩
   have h1:=hi.step S2
   rw [List.map_set,hi.erase] at h1
   simp only [T.erase,T.erase_app,erase_take,sq0_erase] at h1
   cases hb:Nat.ble c.F0.length k with
   | false=>exact h1
   | true =>
    have hkb:=Nat.le_of_ble_eq_true hb
    exact h1.unkill fun k' q s hlt=>by simp [dead,show (k' == k) = false by simp;omega]
  by_cases hn0:n = 0
  ·subst hn0
   have hsame:(s0.take lo).app (sq0 (List.replicate 0 g)) = s0:=by
    rw [take_all H2 (by omega)]
    exact T.app_nil H2
   refine step w rfl rfl rfl rfl (fun _ _=>rfl) (by rw [hsame];exact hH) ?_
   rw [hxe]
   cases A <;> simp [Builtin.clear_,run_underlying u1]
  ·split at hs5
   ·exact absurd hs5.2 (by omega)
   case h_3=>exact hs5.elim
   rename_i xa nx cx
   obtain ⟨ya,rfl,hy1,hy2,hy3,hy4,hy5⟩:=hs5
   have hcap:0 < cx:=by omega
   cases cx with
   | zero=>omega
   | succ cx =>
    obtain ⟨g1,g2,g3,g3',g4,row,ee,fr,g6,gf,g7,g8⟩:=H4
    obtain rfl:=gf rfl
    have hyo:=hy5 (by omega)
    obtain ⟨yb,yo,ys⟩:=ya
    simp only at hy1 hy2 hyo
    subst hy1
    subst hy2
    have hz0:(Builtin.zeroCells zv.cells n).toList = (sq0 (List.replicate n g)).cells:=by
     rw [sq0_cells,←z4]
     by_cases hzz:0 < zv.cells.size
     ·exact range_mod n hzz
     ·have:zv.cells = #[]:=by
       apply Array.eq_empty_of_size_eq_zero;omega
      simp [Builtin.zeroCells,this]
    have hwz:(sq0 (List.replicate n g)).cells.length = n * z':=by rw [T.cells_length,T.uni_width (sq0_uni hgw n),sq0_len]
    have hmul:lo * z' + n * z' = s0.len * z':=by rw [←Nat.add_mul,hlen']
    have hmul2:s0.len * z'≤(cx + 1) * z':=Nat.mul_le_mul_right _ (by omega)
    obtain ⟨w',r1,r2,r3,r4,r5,r6,row',r7,r8,r9,r10⟩:=run_storeCells c.P (b:=xa.block) (o:=yo) (e:=ee) (sq0 (List.replicate n g)).cells 0 w row g6 (fun j hj=>by rw [hwz] at hj;omega)
     (fun v hv=>(sq0_holds (zeroish_holds z1 w.heap I).1 n).one v hv)
    have hmem:xa.block∈(T.sl true (.slice (some xa) nx (cx + 1)) z' s0:G).owned:=by simp [T.owned,blk]
    have hbF:xa.block∈own F:=own_mem hf hmem
    refine step w' r2 r3 r4 r5 (fun b hb=>r6 b fun e=>hb (e ▸ hmem)) ?_ ?_
    ·have hzh:=(zeroish_holds z1 w'.heap I).1
     refine ⟨T.Holds.app (T.Holds.take (H1.agree (fun b hb=>r6 b fun e=>?_) (fun b hb=>r6 b fun e=>hi.apart _ hbF (e ▸ hb)) fun _ h=>h) lo) (sq0_holds hzh n),T.uni_app (T.uni_take H2 lo) (sq0_uni hgw n),(by intro h;cases h),?_⟩
     ·have h1:=count_le_one hi.nodup b
      have h2:=own_one_of' hf b
      subst e
      simp only [T.owned,blk,List.count_append,List.count_singleton_self] at h2
      rw [mem_of_count] at hb
      omega
     ·refine ⟨g1,by rw [T.len_app,T.len_take,sq0_len];omega,g3,g3',(by intro h;cases h),row',ee,(0,0),r7,fun _=>rfl,by rw [r8];exact g7,fun j v hv=>?_⟩
      rw [T.cells_app (T.uni_take H2 lo)] at hv
      have htw:(s0.take lo).cells.length = lo * z':=by rw [T.cells_length,T.uni_width (T.uni_take H2 lo),T.len_take,Nat.min_eq_left (by omega)]
      by_cases hj:j < lo * z'
      ·rw [List.getElem?_append_left (by omega)] at hv
       rw [r10 _ (by left;omega)]
       exact g8 j v (T.cells_take H2 hv)
      ·rw [List.getElem?_append_right (by omega),htw] at hv
       have hj2:=(List.getElem?_eq_some_iff.1 hv).1
       rw [r9 _ (by omega) (by omega),←hv]
       congr 1;omega
    ·rw [hxe]
     cases n with
     | zero=>exact absurd rfl hn0
     | succ n=>simp [Builtin.clear_,run_underlying u1,zeroValue,typeInfo,u2,u3,hz0,r1]
theorem zap_ok {c:Cx} {τ:Tab} (hτ:Tab.Ok c.P τ) {st:St} {a:Act} {w:World} (h:Rel c st a w) {t u ty:TypeId} {x y:Operand} {K:AV→St→Prop} (hv:zapVc τ st t u x y K) :
  ∃ av st' v w',K av st'∧(Builtin.append_ #[t,u] ty #[a.eval x,a.eval y]).run c.P w = .ok v w'∧RelR c st' av v a w'∧Ext w w':=by
 obtain ⟨hd,hs,I,F,hi,he,hp⟩:=h
 unfold zapVc at hv
 split at hv
 case h_2=>exact hv.elim
 rename_i z0 k n e z by_ zv ik hx hy ht hu
 split at hv
 case h_2=>exact hv.elim
 rename_i g hg
 obtain ⟨h0,h1,h2,hK⟩:=hv
 obtain ⟨n,rfl⟩:∃ k:Nat,n = k:=⟨n.toNat,by omega⟩
 simp only [Int.toNat_natCast] at hK
 have hn0:0 < n:=by omega
 have hxv:=he.evT (τ:=τ) t x
 rw [hx] at hxv
 simp only [Rl,List.cons.injEq,and_true] at hxv
 have hyv:=he.ev y
 rw [hy] at hyv
 obtain ⟨hyv,_⟩:=hyv
 injection hyv with hyv _
 obtain ⟨u1,inf,u2,u3,u4,u5,u6⟩:=(hτ t).sl _ _ _ _ ht
 obtain ⟨z1,inf',zz,z2,z3,z4⟩:=(hτ e).zero g hg
 rw [u2] at z2;cases z2
 rw [u3] at z3;cases z3
 have hut:=(hτ u).int _ hu
 have hgw:g.width = z:=by rw [←T.cells_length,←z4,Array.length_toList,u6]
 have h5:(by_:Int) * (n:Int)≤140737488355328:=by rw [Int.mul_comm];exact h1
 have h6:n * by_≤140737488355328:=by
  have e1:((n * by_:Nat):Int) = (n:Int) * by_:=by push_cast;rfl
  omega
 have hi':Inv c st.X st.κ w.drew I F:=⟨hi.erase,hi.holds,hi.nodup,hi.apart,hi.lt,hi.ilt,hi.os,hi.tape,hi.output,hi.size,hi.frame,hi.fresh,hi.imono,hi.inew,hi.base⟩
 let cap:=grownCap w n 0 e
 have hcap:n≤cap:=grownCap_ge w n 0 e
 have hcap2:cap≤2 ^ 63 - 1:=grownCap_le_maxLen w n 0 e (by simp only [maxLen];omega)
 let row:Array Value:=Builtin.zeroCells zv.cells n ++ Builtin.zeroCells zv.cells (cap - n)
 have hrow:row.size = cap * z:=by
  simp only [row,Array.size_append,Builtin.zeroCells,Array.size_map,Array.size_range,u6,←Nat.add_mul]
  congr 1;omega
 have hcells:(Builtin.zeroCells zv.cells n).toList = (sq0 (List.replicate n g)).cells:=by
  rw [sq0_cells,←z4]
  by_cases hzz:0 < zv.cells.size
  ·exact range_mod n hzz
  ·have:zv.cells = #[]:=by
    apply Array.eq_empty_of_size_eq_zero;omega
   simp [Builtin.zeroCells,this]
 have hnew:(w.drew.alloc (.cells row e)).heap[w.heap.size]? = some (.cells row e (0,0)):=heap_alloc_new w.drew _
 have hown:(sq0 (List.replicate n g)).owned = []:=sq0_owned (zeroish_holds z1 w.heap I).2 n
 have hblk:∀ b,(T.sl true (.slice (some ⟨w.heap.size,0,none⟩) n cap) z (sq0 (List.replicate n g)):G).owned.count b≤([w.heap.size]:List Nat).count b:=fun b=>by
  have h1:=T.blk_some ⟨w.heap.size,0,none⟩ n cap b
  simp only [T.owned,hown,List.append_nil] at h1 ⊢;exact h1
 obtain ⟨cc,hcc⟩:∃ cc,cap = cc + 1:=⟨cap - 1,by omega⟩
 obtain ⟨g1,g2,g3,g4⟩:=Rel.newRoot (w:=w.drew) (o:=.cells row e) (g':=.sl true (.slice (some ⟨w.heap.size,0,none⟩) n cap) z (sq0 (List.replicate n g))) hd hs hi' he hp
  ⟨sq0_holds (zeroish_holds z1 _ I).1 n,sq0_uni hgw n,(by intro h;cases h),by
   rw [hcc]
   refine ⟨rfl,(sq0_len g _).symm,by omega,by omega,(by intro h;cases h),row,e,_,hnew,fun _=>rfl,by rw [hrow,hcc];simp,fun j u hu=>?_⟩
   rw [←hcells] at hu
   have hj:=(List.getElem?_eq_some_iff.1 hu).1
   rw [Array.length_toList] at hj
   simp only [Nat.zero_add,row]
   rw [Array.getElem?_append_left hj,←Array.getElem?_toList];exact hu⟩
  (fun b hb=>by have:=hblk b;simp [Ne.symm (show b≠w.heap.size from hb)] at this;omega) (by have:=hblk w.heap.size;simpa using this)
 refine ⟨_,_,.slice (some ⟨w.heap.size,0,none⟩) n cap,w.drew.alloc (.cells row e),hK,?_,⟨hd.alloc _,hs,I,_,?_,g3,g4,true,.slice (some ⟨w.heap.size,0,none⟩) n cap,z,n,_,by simp [hdrF,←g1,T.at_,hdr,sq0_len],rfl,?_⟩,fun b hb=>heap_alloc (w:=w.drew) hb⟩
 ·have hw1:IntKind.i64.wrap (n:Int) = n:=IntWalk.i64_in _ (by omega)
  have hn:n≠0:=by omega
  have h63':¬ (9223372036854775807 < (n:Int)):=by omega
  have h48':¬ (281474976710656 < Builtin.nextslicecap n 0 * inf.bytes):=by rw [nextslicecap_zero hn0,u5];omega
  have h7:¬ (281474976710656 < (n:Int) * (inf.bytes:Int)):=by rw [u5];omega
  have hneg:¬ ((n:Int) < 0):=by omega
  simp only [hxv,hyv]
  simp [Builtin.append_,run_underlying u1,run_underlying hut,sizeOf,typeInfo,zeroValue,u2,u3,asInt,asIntOf,hw1,hn,h63',h48',h7,hneg,Question.forced,run_firstCells_none,newRow]
  have hz:n * inf.size = 0→Builtin.zeroCells zv.cells n = #[]:=fun h=>by
   apply Array.eq_empty_of_size_eq_zero
   simp only [Builtin.zeroCells,Array.size_map,Array.size_range,u6,←u4,h]
  split
  ·rename_i h
   simp only [row,hz h,Array.empty_append];rfl
  ·rfl
 ·simpa [T.erase,sq0_erase] using g2
 ·exact ⟨_,cap,rfl,by omega,hcap,by omega,(fun h=>by cases h),⟨_,rfl,rfl,rfl,by omega,by simp,fun _=>by simp⟩⟩
theorem new_ok {c:Cx} {τ:Tab} (hτ:Tab.Ok c.P τ) {st:St} {a:Act} {w:World} (h:Rel c st a w) {o:Oper} {K:AV→St→Prop} (hv:newVc τ c.F0.length o.op st K) :
  ∃ av st' v w' n,K av st'∧(execOp a.eval o).run c.P w = .ok n w'∧(n = .value v∨n = .skip∧v = undef)∧RelR c st' av v a w'∧(extOp o.op = true→Ext w w'):=by
 obtain ⟨dst,op,ty,pos,after,guard⟩:=o
 obtain ⟨hd,hs,I,F,hi,he,hp⟩:=id h
 simp only at hv
 unfold newVc at hv
 split at hv
 · -- a look into a map
  obtain ⟨av,v,hK,hr,hrun⟩:=look_ok hτ hi he hp hv
  exact ⟨av,st,v,w,_,hK,by simp [execOp,hrun],.inl rfl,⟨hd,hs,I,F,hi,he,hp,hr⟩,fun _ _ _=>rfl⟩
 · -- a map
  obtain ⟨rfl,hK⟩:=hv
  have hnew:(w.alloc (.map #[] 0)).heap[w.heap.size]? = some (.map #[] 0):=heap_alloc_new w _
  obtain ⟨g1,g2,g3,g4⟩:=Rel.newRoot (o:=.map #[] 0) (g':=.map true (.map (some w.heap.size)) .nil) hd hs hi he hp
   ⟨trivial,(by intro h;cases h),(by intro h;cases h),#[],0,hnew,trivial,MapKept.stamped_empty 0⟩ (fun b hb=>by simp [T.owned,blk,List.count_cons,Ne.symm hb]) (by simp [T.owned,blk])
  exact ⟨_,_,.map (some w.heap.size),w.alloc (.map #[] 0),_,hK,by simp [execOp,Instr.makeMap],.inl rfl,
   ⟨hd.alloc _,hs,I,_,g2,g3,g4,true,w.heap.size,0,0,by simp [hdrF,←g1,T.at_,hdr],rfl⟩,fun _=>ext_alloc _ _⟩
 · -- what a map is given
  obtain ⟨av,st',w',hK,hrun,hr⟩:=upd_ok hτ h hv
  exact ⟨av,st',undef,w',_,hK,by simp [execOp,hrun],.inr ⟨rfl,rfl⟩,hr,fun h=>by cases h⟩
 · -- a slice made
  rename_i t x y
  split at hv
  case h_2=>exact hv.elim
  rename_i k1 n k2 m e z by_ zv hx hy ht
  split at hv
  case h_2=>exact hv.elim
  rename_i g hg
  obtain ⟨rfl,h0,h1,h2,h3,h4,hK⟩:=hv
  obtain ⟨n,rfl⟩:∃ k:Nat,n = k:=⟨n.toNat,by omega⟩
  simp only [Int.toNat_natCast] at hK
  have hxv:=he.ev x
  rw [hx] at hxv
  obtain ⟨hxv,_⟩:=hxv
  injection hxv with hxv _
  have hyv:=he.ev y
  rw [hy] at hyv
  obtain ⟨hyv,_⟩:=hyv
  injection hyv with hyv _
  obtain ⟨u1,inf,u2,u3,u4,u5,u6⟩:=(hτ t).sl _ _ _ _ ht
  obtain ⟨z1,inf',zz,z2,z3,z4⟩:=(hτ e).zero g hg
  rw [u2] at z2;cases z2
  rw [u3] at z3;cases z3
  have hcs:((Array.range (n * z)).map fun i=>zv.cells[i % zv.cells.size]!).toList = (sq0 (List.replicate n g)).cells:=by
   rw [sq0_cells,←z4]
   have:=range_mod (zero:=zv.cells) n (by omega)
   simp only [u6] at this ⊢
   exact this
  have hsz:((Array.range (n * z)).map fun i=>zv.cells[i % zv.cells.size]!).size = n * z:=by simp
  have hnew:(w.alloc (.cells ((Array.range (n * z)).map fun i=>zv.cells[i % zv.cells.size]!) e)).heap[w.heap.size]? = some (.cells ((Array.range (n * z)).map fun i=>zv.cells[i % zv.cells.size]!) e (0,0)):=heap_alloc_new w _
  have hown:(sq0 (List.replicate n g)).owned = []:=sq0_owned (zeroish_holds z1 w.heap I).2 n
  have hblk:∀ b,(T.sl true (.slice (some ⟨w.heap.size,0,none⟩) n n) z (sq0 (List.replicate n g)):G).owned.count b≤([w.heap.size]:List Nat).count b:=fun b=>by
   have h1:=T.blk_some ⟨w.heap.size,0,none⟩ n n b
   simp only [T.owned,hown,List.append_nil] at h1 ⊢;exact h1
  obtain ⟨g1,g2,g3,g4⟩:=Rel.newRoot (o:=.cells ((Array.range (n * z)).map fun i=>zv.cells[i % zv.cells.size]!) e) (g':=.sl true (.slice (some ⟨w.heap.size,0,none⟩) n n) z (sq0 (List.replicate n g))) hd hs hi he hp
   ⟨sq0_holds (zeroish_holds z1 _ I).1 n,sq0_uni h3 n,(by intro h;cases h),by
    rcases n with _ | n
    ·exact ⟨rfl,fun _=>rfl,rfl⟩
    ·exact ⟨rfl,(sq0_len g _).symm,Nat.le_refl _,by omega,(by intro h;cases h),_,e,_,hnew,fun _=>rfl,by simp [hsz],fun j u hu=>by rw [←hcs,Array.getElem?_toList] at hu;simpa using hu⟩⟩
   (fun b hb=>by have:=hblk b;simp [List.count_cons,Ne.symm hb] at this;omega) (by have:=hblk w.heap.size;simpa using this)
  refine ⟨_,_,.slice (some ⟨w.heap.size,0,none⟩) n n,w.alloc (.cells ((Array.range (n * z)).map fun i=>zv.cells[i % zv.cells.size]!) e),_,hK,?_,.inl rfl,
   ⟨hd.alloc _,hs,I,_,?_,g3,g4,true,.slice (some ⟨w.heap.size,0,none⟩) n n,z,n,_,by simp [hdrF,←g1,T.at_,hdr,sq0_len],rfl,?_⟩,fun _=>ext_alloc _ _⟩
  ·have hw1:IntKind.i64.wrap (n:Int) = n:=IntWalk.i64_in _ (by omega)
   have h5:(by_:Int) * (n:Int)≤140737488355328:=by rw [Int.mul_comm];exact h1
   have h6:n * by_≤140737488355328:=by
    have e1:((n * by_:Nat):Int) = (n:Int) * by_:=by push_cast;rfl
    omega
   have h7:(inf.bytes:Int) * (n:Int)≤140737488355328:=by rw [u5];exact h5
   have hb1:¬ (281474976710656 < (inf.bytes:Int) * (n:Int)):=by omega
   have hb2:¬ (roomBytes < n * inf.bytes):=by rw [u5];simp [roomBytes];omega
   simp only [execOp,Instr.makeSlice,Sem.run_bind,run_underlying u1,Result.andThen_ok,hxv,hyv,asInt,typeInfo,Sem.run_pure,asIntOf,hw1]
   simp [u2,hb1,askRoom,hb2,sizeOf,typeInfo,u4]
   rw [if_neg (by omega)]
   by_cases h0z:n * z = 0
   ·rw [if_pos h0z]
    have:((Array.range (n * z)).map fun _=>(default:Value)) = (Array.range (n * z)).map fun i=>zv.cells[i % zv.cells.size]!:=by simp [h0z]
    rw [this]
    simp [newRow]
   ·rw [if_neg h0z]
    simp [zeroValue,typeInfo,u2,u3,newRow]
  ·simpa [T.erase,sq0_erase] using g2
  ·exact ⟨_,n,rfl,by omega,Nat.le_refl _,by omega,fun _=>rfl,⟨_,rfl,rfl,rfl,by omega,by simp,fun _=>by simp⟩⟩
 · -- clear
  rename_i cc
  split at hv
  case h_4=>exact hv.elim
  rename_i x t hcal hargs hty
  obtain ⟨av,st',w',hK,hrun,hr⟩:=clr_ok hτ h (ty:=ty) hv
  have h1:cc.args.map a.eval = #[a.eval x]:=by
   apply Array.ext'
   simp [hargs]
  have h2:cc.argTypes = #[t]:=by
   apply Array.ext'
   simp [hty]
  exact ⟨av,st',_,w',_,hK,by simp [execOp,resolve,hcal,h1,h2,invoke,builtin,hrun],.inl rfl,hr,fun h=>by rw [extOp,hcal] at h;cases h⟩
  rename_i x y t u hcal hargs hty
  obtain ⟨av,st',v,w',hK,hrun,hr,hex⟩:=zap_ok hτ h (ty:=ty) hv
  have h1:cc.args.map a.eval = #[a.eval x,a.eval y]:=by
   apply Array.ext'
   simp [hargs]
  have h2:cc.argTypes = #[t,u]:=by
   apply Array.ext'
   simp [hty]
  exact ⟨av,st',v,w',_,hK,by simp [execOp,resolve,hcal,h1,h2,invoke,builtin,hrun],.inl rfl,hr,fun _=>hex⟩
  rename_i x y t u hcal hargs hty
  obtain ⟨av,st',w',hK,hrun,hr⟩:=del_ok hτ h (ty:=ty) (u:=u) hv
  have h1:cc.args.map a.eval = #[a.eval x,a.eval y]:=by
   apply Array.ext'
   simp [hargs]
  have h2:cc.argTypes = #[t,u]:=by
   apply Array.ext'
   simp [hty]
  exact ⟨av,st',_,w',_,hK,by simp [execOp,resolve,hcal,h1,h2,invoke,builtin,hrun],.inl rfl,hr,fun h=>by rw [extOp,hcal] at h;cases h⟩
 ·exact hv.elim
end Go.Vc

/- One operation; a run of operations. -/
namespace Go.Vc
set_option linter.all false
open T (hdr blk)
def RelA (c:Cx) (st:St) (avs:AV) (vs:List Value) (a:Act) (w:World):Prop :=
 Dfs c.w0.heap.size a.defers w∧a.tmps.size = c.nt∧∃ I F,Inv c st.X st.κ w I F∧EnvOk st.env a w I F∧PlOk st.pl w I F∧Rl w.heap I F avs true vs
def HasBody (P:Program) (f:FuncId):Prop:=∃ fn,P.funcs[f]? = some fn∧fn.body.isSome = true∧(fn.name == "runtime.NumGoroutine") = false
def AV.still:AV→Bool
 | .ptr _ _=>false
 | .sub _ _ _ _ _=>false
 | .mp _ _=>false
 | .cons a t=>a.still && t.still
 | .agg s=>s.still
 | .tup s=>s.still
 | .fn _ s=>s.still
 | _=>true
def CallW (c:Cx) (f:FuncId) (avs:AV) (st:St) (K:AV→St→Prop):Prop :=
 ∀ a w vs,RelA c st avs vs a w→HasBody c.P f∧Calls c.P f vs.toArray w fun e w'=>∃ v av st',e = .returned v∧K av st'∧RelR c st' av v a w'∧(avs.still = true→Ext w w')
theorem CallW_congr {c:Cx} {f f':FuncId} {avs avs':AV} {st st':St} {K:AV→St→Prop} (h0:f = f') (h1:avs = avs') (h2:st = st'):CallW c f avs st K = CallW c f' avs' st' K:=by
 subst h0;subst h1;subst h2;rfl
def EqK (P:Program) (t:TypeId) (op:BinOp) (s u:AV) (K:AV→Prop):Prop :=
 ∃ b,(P.eqGuardType P.depth t = false∧∀ h I F xs ys w,Rl h I F s false xs→Rl h I F u false ys→(Op.equal t (.agg xs.toArray) (.agg ys.toArray)).run P w = .ok b w)∧eqVc op b K
theorem EqK_congr {P:Program} {t:TypeId} {op:BinOp} {s s' u u':AV} {K:AV→Prop} (h1:s = s') (h2:u = u'):EqK P t op s u K = EqK P t op s' u' K:=by
 subst h1;subst h2;rfl
def AV.app:AV→AV→AV
 | .cons a t,u=>.cons a (t.app u)
 | _,u=>u
def argsOf (τ:Tab) (st:St):List Operand→List TypeId→AV
 | x :: xs,t :: ts=>.cons (st.evT τ t x) (argsOf τ st xs ts)
 | x :: xs,[]=>.cons (st.ev x) (argsOf τ st xs [])
 | [],_=>.nil
def twoTy (ts:Array TypeId):Bool:=match ts.toList with
 | [t,u]=>!Nat.beq t u
 | _=>false
def opVc (c:Cx) (τ:Tab) (o:Oper) (st:St) (K:AV→St→Prop):Prop :=
 match o.op with
 | .load t x=>loadVc τ (.load t x) st fun av=>K av st
 | .store t p x=>effVc τ c.F0.length (.store t p x) st K
 | .alloc t=>effVc τ c.F0.length (.alloc t) st K
 | .box t x=>effVc τ c.F0.length (.box t x) st K
 | .buildSlice t n parts=>effVc τ c.F0.length (.buildSlice t n parts) st K
 | .build t parts=>buildVc τ st t parts.toList fun av=>K av st
 | .slice t x lo hi mx=>(mx≠none→hi≠none)∧sliceVc τ st t (st.evT τ t x) (lo.map st.ev) (hi.map st.ev) (mx.map st.ev) fun av=>K av st
 | .call cc=>match cc.callee with
  | .builtin .append=>match twoTy cc.argTypes with
   | true=>newVc τ c.F0.length (.call cc) st K
   | false=>effVc τ c.F0.length (.call cc) st K
  | .builtin .clear=>newVc τ c.F0.length (.call cc) st K
  | .builtin .delete=>newVc τ c.F0.length (.call cc) st K
  | .value f=>match st.ev f with
   | .fn g s=>s.isSeq = true∧CallW c g ((argsOf τ st cc.args.toList cc.argTypes.toList).app s) st K
   | _=>False
  | _=>pureVc τ (.call cc) o.type st fun av=>K av st
 | .binOp op t x y ty=>match st.ev x,st.ev y with
  | .agg s,.agg u=>(op = .eql∨op = .neq)∧EqK c.P t op s u fun av=>K av st
  | _,_=>pureVc τ (.binOp op t x y ty) o.type st fun av=>K av st
 | .lookup t x ix ok=>newVc τ c.F0.length (.lookup t x ix ok) st K
 | .makeMap t r=>newVc τ c.F0.length (.makeMap t r) st K
 | .mapUpdate t m x y=>newVc τ c.F0.length (.mapUpdate t m x y) st K
 | .makeSlice t x y=>newVc τ c.F0.length (.makeSlice t x y) st K
 | op=>pureVc τ op o.type st fun av=>K av st
def fnStill (as:AV):AV→Bool
 | .fn _ s=>(as.app s).still
 | _=>false
def callStill (τ:Tab) (st:St):Op→Bool
 | .call cc=>match cc.callee with
  | .value f=>fnStill (argsOf τ st cc.args.toList cc.argTypes.toList) (st.ev f)
  | _=>false
 | _=>false
theorem eff_still {τ:Tab} {nb:Nat} {o:Op} {st:St} {K:AV→St→Prop} (h:effVc τ nb o st K):callStill τ st o = false:=by
 unfold effVc at h
 split at h <;> first | rfl | exact h.elim | skip
 rename_i cc
 split at h
 ·rename_i hcal _ _;simp [callStill,hcal]
 ·exact h.elim
theorem new_still {τ:Tab} {nb:Nat} {o:Op} {st:St} {K:AV→St→Prop} (h:newVc τ nb o st K):callStill τ st o = false:=by
 unfold newVc at h
 split at h <;> first | rfl | exact h.elim | skip
 rename_i cc
 split at h
 ·rename_i hcal _ _;simp [callStill,hcal]
 ·rename_i hcal _ _;simp [callStill,hcal]
 ·rename_i hcal _ _;simp [callStill,hcal]
 ·exact h.elim
theorem argsOf_rl {τ:Tab} {st:St} {a:Act} {w:World} {I:Nat→Prop} {F:List G} (he:EnvOk st.env a w I F):∀ (xs:List Operand) (ts:List TypeId),
  Rl w.heap I F (argsOf τ st xs ts) true (xs.map a.eval)
 | [],_=>rfl
 | x :: xs,[]=>⟨_,_,rfl,he.ev x,argsOf_rl he xs []⟩
 | x :: xs,t :: ts=>⟨_,_,rfl,he.evT t x,argsOf_rl he xs ts⟩
theorem argsOf_app {τ:Tab} {st:St} {a:Act} {w:World} {I:Nat→Prop} {F:List G} (he:EnvOk st.env a w I F) {u:AV} {m:List Value} (H2:Rl w.heap I F u true m):∀ (xs:List Operand) (ts:List TypeId),
  Rl w.heap I F ((argsOf τ st xs ts).app u) true (xs.map a.eval ++ m)
 | [],_=>H2
 | x :: xs,[]=>⟨_,_,rfl,he.ev x,argsOf_app he H2 xs []⟩
 | x :: xs,t :: ts=>⟨_,_,rfl,he.evT t x,argsOf_app he H2 xs ts⟩
theorem run_callFunc {P:Program} {f:FuncId} (h:HasBody P f) (args:Array Value) (w:World):(callFunc f args).run P w = .ok (.enter f args) w:=by
 obtain ⟨fn,h1,h2,h3⟩:=h
 have h4:fn.body≠none:=by rw [Option.isSome_iff_exists] at h2;obtain ⟨b,h2⟩:=h2;rw [h2];simp
 have h5:fn.name ≠ "runtime.NumGoroutine":=by simpa using h3
 simp [callFunc,h1,h4,h5]
theorem op_ok {c:Cx} {τ:Tab} (hτ:Tab.Ok c.P τ) {st:St} {a:Act} {w:World} (h:Rel c st a w) {o:Oper} {K:AV→St→Prop} (hv:opVc c τ o st K) {next:Act→World→Prop} {Q:Exit→Act→World→Prop}
  (hn:∀ av v st' w',K av st'→RelR c st' av v a w'→(extOp o.op = true∨callStill τ st o.op = true→Ext w w')→next (a.put o.dst v) w'):o.wp c.P a w next Q:=by
 obtain ⟨hd,hs,I,F,hi,he,hp⟩:=id h
 have value:∀ av v st',K av st'→RelR c st' av v a w→(execOp a.eval o).run c.P w = .ok (.value v) w→o.wp c.P a w next Q:=fun av v st' h1 h2 h3=>by
  unfold Oper.wp;rw [h3];exact hn av v st' w h1 h2 fun _ _ _=>rfl
 have eff:effVc τ c.F0.length o.op st K→o.wp c.P a w next Q:=fun hv=>by
  obtain ⟨av,st',v,w',n,h1,h2,h3,h4,h5⟩:=eff_ok hτ h hv
  unfold Oper.wp;rw [h2]
  have h5':extOp o.op = true∨callStill τ st o.op = true→Ext w w':=fun h=>h.elim h5 fun h=>by rw [eff_still hv] at h;cases h
  rcases h3 with rfl | ⟨rfl,rfl⟩
  ·exact hn av v st' w' h1 h4 h5'
  ·exact hn av undef st' w' h1 h4 h5'
 have neww:newVc τ c.F0.length o.op st K→o.wp c.P a w next Q:=fun hv=>by
  obtain ⟨av,st',v,w',n,h1,h2,h3,h4,h5⟩:=new_ok hτ h hv
  unfold Oper.wp;rw [h2]
  have h5':extOp o.op = true∨callStill τ st o.op = true→Ext w w':=fun h=>h.elim h5 fun h=>by rw [new_still hv] at h;cases h
  rcases h3 with rfl | ⟨rfl,rfl⟩
  ·exact hn av v st' w' h1 h4 h5'
  ·exact hn av undef st' w' h1 h4 h5'
 have pure:∀ {K':AV→Prop},(∀ av,K' av→K av st)→pureVc τ o.op o.type st K'→o.wp c.P a w next Q:=fun hk hv=>by
  obtain ⟨av,v,h1,h2,h3⟩:=pure_ok hτ hi he hv
  exact value av v st (hk _ h1) ⟨hd,hs,I,F,hi,he,hp,h2⟩ (h3 w)
 unfold opVc at hv
 split at hv
 ·rename_i t x ho
  obtain ⟨av,v,h1,h2,h3⟩:=load_ok hτ hi he hp (o:=o) (K:=fun av=>K av st) (by rw [ho];exact hv)
  exact value av v st h1 ⟨hd,hs,I,F,hi,he,hp,h2⟩ (h3 w fun _ _=>rfl)
 ·rename_i ho;exact eff (by rw [ho];exact hv)
 ·rename_i ho;exact eff (by rw [ho];exact hv)
 ·rename_i ho;exact eff (by rw [ho];exact hv)
 ·rename_i ho;exact eff (by rw [ho];exact hv)
 ·rename_i t parts ho
  obtain ⟨av,v,h1,h2,h3⟩:=build_ok hτ he hv
  refine value av v st h1 ⟨hd,hs,I,F,hi,he,hp,h2⟩ ?_
  obtain ⟨dst,op,ty,pos,after,guard⟩:=o
  simp only at ho;subst ho
  simp [execOp,h3]
 ·rename_i t x lo hi' mx ho
  obtain ⟨hm,hv⟩:=hv
  have opt:∀ (x:Option Operand),RlO w.heap I F (x.map st.ev) (x.map a.eval):=fun x=>by
   cases x with
   | none=>trivial
   | some x=>exact he.ev x
  obtain ⟨av,v,h1,h2,h3⟩:=slice_ok hτ hi (he.evT (τ:=τ) t x) (opt lo) (opt hi') (opt mx) (by simpa using hm) hv
  refine value av v st h1 ⟨hd,hs,I,F,hi,he,hp,h2⟩ ?_
  obtain ⟨dst,op,ty,pos,after,guard⟩:=o
  simp only at ho;subst ho
  simp [execOp,h3]
 ·rename_i cc ho
  split at hv
  ·split at hv
   ·exact neww (by rw [ho];exact hv)
   ·exact eff (by rw [ho];exact hv)
  ·exact neww (by rw [ho];exact hv)
  ·exact neww (by rw [ho];exact hv)
  ·rename_i f hcal
   split at hv
   case h_2=>exact hv.elim
   rename_i g s hf
   obtain ⟨hsq,hv⟩:=hv
   have hfv:=he.ev f
   rw [hf] at hfv
   obtain ⟨l,h1,h2⟩:=hfv
   have hargs:=argsOf_app (τ:=τ) he h2 cc.args.toList cc.argTypes.toList
   obtain ⟨hb,hcalls⟩:=hv a w _ ⟨hd,hs,I,F,hi,he,hp,hargs⟩
   injection h1 with h1 _
   obtain ⟨dst,op,ty,pos,after,guard⟩:=o
   simp only at ho;subst ho
   have hrun:(execOp a.eval ⟨dst,.call cc,ty,pos,after,guard⟩).run c.P w = .ok (.enter g (cc.args.toList.map a.eval ++ l).toArray) w:=by
    have harr:cc.args.map a.eval ++ l.toArray = (cc.args.toList.map a.eval ++ l).toArray:=by apply Array.ext';simp
    simp [execOp,resolve,hcal,h1,Deferred.ofValue,invoke,run_callFunc hb,harr]
   unfold Oper.wp;rw [hrun]
   refine Calls.mono hcalls fun e w' he'=>?_
   obtain ⟨v,av,st',rfl,k1,k2,k3⟩:=he'
   refine hn av v st' w' k1 k2 fun h=>?_
   rcases h with h | h
   ·simp [extOp,hcal] at h
   ·exact k3 (by simpa [callStill,hcal,hf,fnStill] using h)
  ·exact pure (K':=fun av=>K av st) (fun _ h=>h) (by rw [ho];exact hv)
 ·rename_i op t x y ty ho
  split at hv
  ·rename_i s u hx hy
   obtain ⟨hop,b,⟨h1,h2⟩,h3⟩:=hv
   have hxv:=he.ev x
   have hyv:=he.ev y
   rw [hx] at hxv
   rw [hy] at hyv
   obtain ⟨xs,e1,r1⟩:=hxv
   obtain ⟨ys,e2,r2⟩:=hyv
   injection e1 with e1 _
   injection e2 with e2 _
   have hr:=h2 w.heap I F xs ys w r1 r2
   obtain ⟨dst,op',ty',pos,after,guard⟩:=o
   simp only at ho;subst ho
   rcases hop with rfl | rfl
   ·refine value _ (.bool b) st h3 ⟨hd,hs,I,F,hi,he,hp,rfl,rfl⟩ ?_
    simp [execOp,eqGuard,h1,binOp,e1,e2,hr]
   ·refine value _ (.bool !b) st h3 ⟨hd,hs,I,F,hi,he,hp,rfl,rfl⟩ ?_
    simp [execOp,eqGuard,h1,binOp,e1,e2,hr]
  ·exact pure (K':=fun av=>K av st) (fun _ h=>h) (by rw [ho];exact hv)
 ·rename_i ho;exact neww (by rw [ho];exact hv)
 ·rename_i ho;exact neww (by rw [ho];exact hv)
 ·rename_i ho;exact neww (by rw [ho];exact hv)
 ·rename_i ho;exact neww (by rw [ho];exact hv)
 ·exact pure (K':=fun av=>K av st) (fun _ h=>h) hv
def glook:List (Nat×Tmp)→Nat→Option Tmp
 | [],_=>none
 | (g,t) :: l,i=>if g = i then some t else glook l i
def gsOk (all:List Oper) (gs:List (Nat×Tmp)):Bool:=gs.all fun (g,t)=>(all[g]?).bind (·.dst) == some t
def guardOf (gs:List (Nat×Tmp)) (st:St):Option (Nat×Bool)→Option Bool
 | none=>some true
 | some (g,want)=>match glook gs g with
  | some t=>match look st.env t with
   | .val (.bool b)=>some (b == want)
   | .tup _=>some false
   | _=>none
  | none=>none
def putVc (gs:List (Nat×Tmp)) (i:Nat) (dst:Option Tmp) (av:AV) (st:St) (K:St→Prop):Prop :=
 match glook gs i,av with
 | some _,.val (.bool b)=>(b = true→K (st.put dst (.val (.bool true))))∧(b = false→K (st.put dst (.val (.bool false))))
 | _,av=>K (st.put dst av)
def vcOps (c:Cx) (τ:Tab) (gs:List (Nat×Tmp)):List Oper→Nat→St→(St→Prop)→Prop
 | [],_,st,K=>K st
 | o :: r,i,st,K=>match guardOf gs st o.guard with
  | some true=>opVc c τ o st fun av st'=>putVc gs i o.dst av st' fun st=>vcOps c τ gs r (i + 1) st K
  | some false=>vcOps c τ gs r (i + 1) (st.put o.dst (.tup .nil)) K
  | none=>False
theorem glook_ok {all:List Oper} {gs:List (Nat×Tmp)} (h:gsOk all gs = true) {g:Nat} {t:Tmp} (hg:glook gs g = some t):(all[g]?).bind (·.dst) = some t:=by
 induction gs with
 | nil=>cases hg
 | cons e l ih =>
  obtain ⟨g',t'⟩:=e
  simp only [gsOk,List.all_cons,Bool.and_eq_true,beq_iff_eq] at h
  simp only [glook] at hg
  split at hg
  ·rename_i he;subst he;cases hg;exact h.1
  ·exact ih h.2 hg
theorem guardOf_ok {all:List Oper} {gs:List (Nat×Tmp)} (hgs:gsOk all gs = true) {st:St} {a:Act} {w:World} {c:Cx} (h:Rel c st a w) {o:Oper} {b:Bool} (hg:guardOf gs st o.guard = some b) :
  Region.wanted o (yielded all.toArray a.tmps) = b:=by
 obtain ⟨hd,hs,I,F,hi,he,hp⟩:=h
 unfold Region.wanted
 cases hog:o.guard with
 | none=>rw [hog] at hg;simpa [guardOf] using hg
 | some gw =>
  obtain ⟨g,want⟩:=gw
  rw [hog] at hg
  simp only [guardOf] at hg
  cases ht:glook gs g with
  | none=>rw [ht] at hg;cases hg
  | some t =>
   rw [ht] at hg
   simp only at hg
   have hv:=he t
   split at hg
   ·rename_i b' hl
    rw [hl] at hv
    simp only [Option.some.injEq] at hg
    subst hg
    obtain ⟨hv,_⟩:=hv
    have hy:yielded all.toArray a.tmps g = some b':=by
     unfold yielded
     have h1:(all.toArray[g]?).bind (·.dst) = some t:=by simpa using glook_ok hgs ht
     rw [h1]
     simp only [Option.bind_some]
     have h2:a.tmps[t]? = some (.bool b'):=by
      have h3:a.tmps[t]?.getD undef = .bool b':=by simpa using hv
      cases h4:a.tmps[t]? with
      | none=>rw [h4] at h3;simp [undef] at h3
      | some u=>rw [h4] at h3;simp at h3;rw [h3]
     rw [h2]
    simp only [hy]
    cases b' <;> cases want <;> rfl
   ·rename_i s hl
    rw [hl] at hv
    simp only [Option.some.injEq] at hg
    subst hg
    obtain ⟨l,hv,_⟩:=hv
    injection hv with hv _
    have hy:yielded all.toArray a.tmps g = none:=by
     unfold yielded
     have h1:(all.toArray[g]?).bind (·.dst) = some t:=by simpa using glook_ok hgs ht
     rw [h1]
     simp only [Option.bind_some]
     cases h4:a.tmps[t]? with
     | none=>rfl
     | some u =>
      have h5:u = .tuple l.toArray:=by simpa [h4] using hv
      subst h5
      rfl
    simp only [hy]
    rfl
   ·cases hg
theorem put_ok {c:Cx} {gs:List (Nat×Tmp)} {i:Nat} {dst:Option Tmp} {av:AV} {st:St} {K:St→Prop} {v:Value} {a:Act} {w:World} (hv:putVc gs i dst av st K) (h:RelR c st av v a w)
  (hd:∀ t,dst = some t→t < c.nt):∃ st',K st'∧Rel c st' (a.put dst v) w:=by
 unfold putVc at hv
 split at hv
 ·rename_i b _
  cases b with
  | true=>exact ⟨_,hv.1 rfl,h.put hd⟩
  | false=>exact ⟨_,hv.2 rfl,h.put hd⟩
 ·exact ⟨_,hv,h.put hd⟩
def dstsOk (nt:Nat) (l:List Oper):Bool:=l.all fun o=>match o.dst with
 | some t=>Nat.blt t nt
 | none=>true
theorem ops_ok {c:Cx} {τ:Tab} (hτ:Tab.Ok c.P τ) {all:List Oper} {gs:List (Nat×Tmp)} (hgs:gsOk all gs = true) {Q:Exit→Act→World→Prop} {K:St→Prop} (hQ:∀ st a w,K st→Rel c st a w→Q .normal a w) :
  ∀ (l:List Oper) (i:Nat) (st:St) (a:Act) (w:World),dstsOk c.nt l = true→Rel c st a w→vcOps c τ gs l i st K→wpList c.P all.toArray Q l a w
 | [],_,st,a,w,_,h,hv=>hQ st a w hv h
 | o :: r,i,st,a,w,hl,h,hv=>by
  simp only [dstsOk,List.all_cons,Bool.and_eq_true] at hl
  have hdst:∀ t,o.dst = some t→t < c.nt:=fun t ht=>by
   have:=hl.1;rw [ht] at this;exact Nat.le_of_ble_eq_true this
  unfold vcOps at hv
  unfold wpList
  split at hv
  ·rename_i hg
   rw [if_pos (guardOf_ok hgs h hg)]
   refine .inl (op_ok hτ h hv fun av v st' w' h1 h2 _=>?_)
   obtain ⟨st'',h3,h4⟩:=put_ok h1 h2 hdst
   exact ops_ok hτ hgs hQ r (i + 1) st'' _ w' hl.2 h4 h3
  ·rename_i hg
   rw [guardOf_ok hgs h hg]
   simp only [Bool.false_eq_true,if_false]
   obtain ⟨hd,hs,I,F,hi,he,hp⟩:=h
   exact ops_ok hτ hgs hQ r (i + 1) _ _ w hl.2 (RelR.put (av:=.tup .nil) (v:=undef) ⟨hd,hs,I,F,hi,he,hp,[],rfl,rfl⟩ hdst) hv
  ·exact hv.elim
end Go.Vc
