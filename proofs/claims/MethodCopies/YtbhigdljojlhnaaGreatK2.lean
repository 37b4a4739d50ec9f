import Derived.Test.YtbhigdljojlhnaaGreatK1
import Derived.MapKept
import Derived.IntWalk
import Derived.Laws.Append
import Derived.Laws.AppendOwn
import Derived.ChangeMaps4
import Derived.Tactics
namespace Go.Vc
set_option linter.all false
open T (cM blk)
def xA (nb:Nat) (st:St) (av:AV) (K:AV→St→Prop):Prop :=
 let r:=av.lay nb st.X
 K (.ptr r.X.length [.d]) ((st.mT r).push r (.d :: ·) (.box true () r.d))
def Eg (nb:Nat) (st:St) (z n:Nat) (av:AV) (K:AV→St→Prop):Prop :=
 let r:=av.lay nb st.X
 r.d.nQ z∧r.d.len=n∧K (.sub r.X.length [] 0 n true) ((st.mT r).push r toI (.sl true () z r.d))
def sX (nb:Nat) (st:St) (av:AV) (k:Nat) (q:Path) (K:AV→St→Prop):Prop :=
 let r:=av.lay nb st.X
 (r.tree k).dU q=true∧r.d.width=((r.tree k).at_ q).width∧K .bad (st.stored nb r k q)
def gq (nb z cL:Nat) (st:St) (b x:AV) (K:AV→St→Prop):Prop :=
 match b.src nb z st.X,x.src nb z st.X with
 | some rb,some r=>r.κ=[]∧r.m=0∧fits rb.m 0 cL∧K b st
 | _,_=>False
def pM (nb z cL:Nat) (st:St) (b x:AV) (K:AV→St→Prop):Prop :=
 match b with
 | .sub j [] lo n false=>bif marked st.κ j&&Nat.beq lo 0 then jj nb z cL st j n x K else fT nb z cL st j lo n x K
 | .sub j [] lo 0 true=>bif Nat.ble nb j then fT nb z cL st j lo 0 x K else match x.src nb z st.X with
  | some r=>bif Nat.blt 0 r.m then ct nb z cL st (.sub j [] lo 0 true) x K else gq nb z cL st (.sub j [] lo 0 true) x K
  | none=>False
 | .sub j q lo n true=>match x.src nb z st.X with
  | some r=>bif Nat.blt 0 r.m then ct nb z cL st (.sub j q lo n true) x K else gq nb z cL st (.sub j q lo n true) x K
  | none=>False
 | b=>ct nb z cL st b x K
def fI (τ:bg) (nb:Nat) (o:Op) (st:St) (K:AV→St→Prop):Prop :=
 match o with
 | .store t p x=>match st.ev p with
  | .ptr k q=>(st.jO τ t x).eZ=true∧((τ t).ld.map fun y=>y.2)=some (st.jO τ t x).width∧sX nb st (st.jO τ t x) k q K
  | _=>False
 | .alloc t=>match (τ t).zero with
  | some g=>(AV.rz g).eZ=true∧xA nb st (AV.rz g) K
  | none=>False
 | .box t x=>(st.jO τ t x).eZ=true∧xA nb st (st.jO τ t x) K
 | .buildSlice t n parts=>match (τ t).sl with
  | some (e,z,_,_)=>match (τ e).zero with
   | some g=>n*z≤16777216∧n≤16777216∧g.width=z∧0<z ∧
     gP st (fun i=>some (i*z,z)) (AV.ofList (List.replicate n (AV.rz g))) parts.toList fun s=>s.cI=true∧Eg nb st z n s K
   | none=>False
  | none=>False
 | .call c=>match c.callee,c.args.toList,c.argTypes.toList with
  | .builtin .append,[x,y],[t,u]=>match (τ t).sl with
   | some (_,z,cL,_)=>t=u∧pM nb z cL st (st.jO τ t x) (st.jO τ t y) K
   | none=>False
  | _,_,_=>False
 | _=>False
theorem Rel.gq{c:Cx}{τ:bg}(hτ:bg.Ok c.P τ){st:St}{a:Act}{w:World}{I:Nat→Prop}{F:List G}(hd:oI c.w0.heap.size a.defers w)(hs:a.tmps.size=c.nt)(hi:Inv c st.X st.κ w I F)
  (he:bw st.env a w I F) (hp:dS st.pl w I F) {t ty:TypeId} {e z cL:Nat} {zv:Value} (ht:(τ t).sl=some (e,z,cL,zv)) {b x:AV} {v vx:Value}
  (hv:Rl w.heap I F b true [v]) (hx:Rl w.heap I F x true [vx]) {K:AV→St→Prop} (hK:Vc.gq c.F0.length z cL st b x K) :
  ∃av st' v' w',K av st'∧(Builtin.append_ #[t,t] ty #[v,vx]).run c.P w=.ok v' w'∧gr c st' av v' a w':=by
 unfold Vc.gq at hK
 split at hK
 case h_2=>exact hK.elim
 rename_i rb r hrb hr
 obtain⟨_,hm,⟨Cg,qA⟩,hK⟩:=hK
 rw[←hi.erase] at hr hrb
 obtain⟨_,x',o2,A2,c2,_,_,s3,s4,_,s6,_⟩:=rC hi.holds hx hr
 obtain⟨_,s,o1,A,cap,_,_,t3,t4,_,t6,_⟩:=rC hi.holds hv hrb
 subst s3
 subst t3
 rw[hm] at s4 ⊢
 obtain⟨u1,inf,u2,u3,u4,u5,u6⟩:=(hτ t).sl _ _ _ _ ht
 rw[←u4] at s4 t4
 have pL:∀b∈s.owned++x'.owned,b<w.heap.size:=fun b hb=>by
  rcases List.mem_append.1 hb with hb|hb
  ·have h6:=t6 b;exact hi.lt b (by rw[aq] at *;omega)
  ·have h6:=s6 b;exact hi.lt b (by rw[aq] at *;omega)
 have hcap:=(dA rfl t4).2.1
 obtain⟨v',w',r1,r2,r3,r4,r5,r6,_,_,r9,_⟩:=kj (P:=c.P) w (ty:=ty) u1 u2 u3 t4 s4 (by rw[u6,u4]) hi.ic (fun _ h=>by omega) pL (by rw[u5];exact Cg) qA
 obtain⟨h1,h2⟩:=r9 (by omega)
 have hheap:w'.heap=w.heap:=by
  apply Array.ext_getElem?
  intro i
  rcases Nat.lt_or_ge i w.heap.size with h'|h'
  ·exact r6 i h' fun _ _ _ h=>by omega
  ·rw[Array.getElem?_eq_none h',Array.getElem?_eq_none (by omega)]
 subst h1
 obtain⟨g1,g2,I',F',g3,g4,g5⟩:=Rel.quiet (c:=c) (st:=st) ⟨hd,hs,I,F,hi,he,hp⟩ hheap r2 r3 r4
 refine⟨_,_,_,w',hK,r1,hd.same hheap,hs,I,F,?_,?_,?_,by rw[hheap];exact hv⟩
 ·exact⟨hi.erase,by rw[hheap];exact hi.holds,hi.nodup,hi.apart,by rw[hheap];exact hi.lt,by rw[hheap];exact hi.ic,r2.trans hi.os,r3.trans hi.tape,r4.trans hi.output,
   by rw[hheap];exact hi.size,by rw[hheap];exact hi.frame,hi.fresh,hi.ek,hi.gY,hi.base⟩
 ·exact fun t=>by rw[hheap];exact he t
 ·exact fun k q av hm=>by rw[hheap];exact hp k q av hm
theorem Eh{c:Cx}{τ:bg}(hτ:bg.Ok c.P τ){st:St}{a:Act}{w:World}{I:Nat→Prop}{F:List G}(hd:oI c.w0.heap.size a.defers w)(hs:a.tmps.size=c.nt)(hi:Inv c st.X st.κ w I F)
  (he:bw st.env a w I F) (hp:dS st.pl w I F) {t ty:TypeId} {e z cL:Nat} {zv:Value} (ht:(τ t).sl=some (e,z,cL,zv)) {b x:AV} {v vx:Value}
  (hv:Rl w.heap I F b true [v]) (hx:Rl w.heap I F x true [vx]) {K:AV→St→Prop} (hK:pM c.F0.length z cL st b x K) :
  ∃av st' v' w',K av st'∧(Builtin.append_ #[t,t] ty #[v,vx]).run c.P w=.ok v' w'∧gr c st' av v' a w':=by
 unfold pM at hK
 split at hK
 ·rename_i j lo n
  cases hm:(marked st.κ j&&Nat.beq lo 0) with
  | true =>
   rw[hm] at hK
   simp only[Bool.and_eq_true] at hm
   obtain rfl:=Nat.eq_of_beq_eq_true hm.2
   exact Rel.jj hτ hd hs hi he hp ht hv hx hK
  | false=>rw[hm] at hK;exact Rel.fT hτ hd hs hi he hp ht hv hx hK
 ·rename_i j lo
  cases hj:Nat.ble c.F0.length j with
  | true=>rw[hj] at hK;exact Rel.fT hτ hd hs hi he hp ht hv hx hK
  | false =>
   rw[hj] at hK
   simp only[cond_false] at hK
   split at hK
   ·rename_i r _
    cases hb:Nat.blt 0 r.m with
    | true=>rw[hb] at hK;exact Rel.ct hτ hd hs hi he hp ht hv hx hK
    | false=>rw[hb] at hK;exact Rel.gq hτ hd hs hi he hp ht hv hx hK
   ·exact hK.elim
 ·split at hK
  ·rename_i r _
   cases hb:Nat.blt 0 r.m with
   | true=>rw[hb] at hK;exact Rel.ct hτ hd hs hi he hp ht hv hx hK
   | false=>rw[hb] at hK;exact Rel.gq hτ hd hs hi he hp ht hv hx hK
  ·exact hK.elim
 ·exact Rel.ct hτ hd hs hi he hp ht hv hx hK
theorem kI{h:Array Obj}{I:Nat→Prop}{F:List G}{g:G}(hg:gN g=true):∀n,Rl h I F (AV.ofList (List.replicate n (AV.rz g))) false (List.replicate n g.cells).flatten
 | 0=>rfl
 | n+1=>⟨_,_,by simp[List.replicate_succ],w8 hg,kI hg n⟩
theorem qs{zero:Array Value}:∀(n:Nat),0<zero.size→((Array.range (n*zero.size)).map fun i=>zero[i % zero.size]!).toList=(List.replicate n zero.toList).flatten:=by
 intro n hz
 apply List.ext_getElem?
 intro i
 have hfl:∀(n i:Nat),(List.replicate n zero.toList).flatten[i]? = if i<n*zero.size then zero.toList[i % zero.size]? else none:=by
  intro n
  induction n with
  | zero=>intro i;simp
  | succ n ih =>
   intro i
   simp only[List.replicate_succ,List.flatten_cons]
   by_cases hi:i<zero.size
   ·rw[List.getElem?_append_left (by simpa using hi),Nat.mod_eq_of_lt hi,if_pos (by rw[Nat.succ_mul];omega)]
   ·rw[List.getElem?_append_right (by simpa using hi),ih]
    simp only[Array.length_toList]
    rw[show i % zero.size=(i-zero.size) % zero.size from Nat.mod_eq_sub_mod (by omega),Nat.succ_mul]
    by_cases h2:i<n*zero.size+zero.size
    ·rw[if_pos h2,if_pos (by omega)]
    ·rw[if_neg h2,if_neg (by omega)]
 rw[hfl]
 by_cases hi:i<n*zero.size
 ·rw[if_pos hi]
  have:=Nat.mod_lt i hz
  simp[hi,this]
 ·rw[if_neg hi]
  simp;omega
theorem MU{z:Nat}{x:G}(h:x.erase.nQ z):x.nQ z:=by
 induction x with
 | cons a t _ bO=>simp only[T.erase,T.nQ,T.eV] at h ⊢;exact⟨h.1,bO h.2⟩
 | nil=>trivial
 | _=>exact h.elim
def ff:Op→Bool
 | .store _ _ _=>false
 | .mapUpdate _ _ _ _=>false
 | .call c=>match c.callee with
  | .builtin .len=>true
  | .builtin .cap=>true
  | .builtin .min=>true
  | .builtin .max=>true
  | _=>false
 | _=>true
theorem nv(w:World)(o:Obj):Ext w (w.alloc o):=fun _ hb=>heap_alloc hb
theorem TC{c:Cx}{τ:bg}(hτ:bg.Ok c.P τ){st:St}{a:Act}{w:World}(h:Rel c st a w){o:Oper}{K:AV→St→Prop}(hv:fI τ c.F0.length o.op st K) :
  ∃av st' v w' n,K av st'∧(execOp a.eval o).run c.P w=.ok n w'∧(n=.value v∨n=.skip∧v=undef)∧gr c st' av v a w'∧(ff o.op=true→Ext w w'):=by
 obtain⟨dst,op,ty,pos,after,guard⟩:=o
 obtain⟨hd,hs,I,F,hi,he,hp⟩:=h
 simp only at hv
 unfold fI at hv
 split at hv
 · -- store
  rename_i t p x
  split at hv
  case h_2=>exact hv.elim
  rename_i k q hpe
  obtain⟨h1,h2,h3,h4,h5⟩:=hv
  have hpv:=he.ev p
  rw[hpe] at hpv
  obtain⟨b,o,h6,h7⟩:=hpv
  have hx:=he.jO (τ:=τ) t x
  generalize st.jO τ t x=av at *
  obtain⟨w',h8,h9,h10,I',F',h11,h12,h13⟩:=Rel.store c.P hd hs hi he hp hx h1 h6 h3 h4
  have hw:=(hx.qu h1).width
  cases DL:(τ t).ld with
  | none=>rw[DL] at h2;cases h2
  | some y =>
   rw[DL] at h2
   simp only[Option.map_some,Option.some.injEq] at h2
   obtain⟨u1,u2,inf,u3,u4⟩:=(hτ t).ld y.1 y.2 (by rw[DL])
   injection h7 with h7 _
   refine⟨.bad,_,undef,w',.skip,h5,?_,.inr ⟨rfl,rfl⟩,⟨h9,h10,I',F',h11,h12,h13,_,rfl⟩,fun h=>by cases h⟩
   have hsz:(a.eval x).cells.size=inf.size:=by rw[←Array.length_toList,hw,u4,h2]
   simp[execOp,Instr.storeAt,h7,Instr.sureAddr,storeVar,sizeOf,typeInfo,u3,hsz,h8]
 · -- alloc
  rename_i t
  split at hv
  case h_2=>exact hv.elim
  rename_i g hg
  obtain⟨h1,h2⟩:=hv
  obtain⟨z1,inf,z,z2,z3,z4⟩:=(hτ t).zero g hg
  have hR:=Rel.WE (cs:=z.cells) hd hs hi he hp (by rw[z4];exact w8 z1) h1 t
  exact⟨_,_,_,_,_,h2,by simp[execOp,Instr.alloc,zeroValue,typeInfo,z2,z3,newVar,newRow],.inl rfl,hR,fun _=>nv _ _⟩
 · -- box
  rename_i t x
  obtain⟨h1,h2⟩:=hv
  have hx:=he.jO (τ:=τ) t x
  have hR:=Rel.WE hd hs hi he hp (hx.qu h1) h1 t
  exact⟨_,_,_,_,_,h2,by simp[execOp,Instr.box,newVar,newRow],.inl rfl,hR,fun _=>nv _ _⟩
 · -- a slice written out
  rename_i t n parts
  split at hv
  case h_2=>exact hv.elim
  rename_i e z cL zv ht
  split at hv
  case h_2=>exact hv.elim
  rename_i g hg
  obtain⟨h0,h0',h1,h2,h3⟩:=hv
  obtain⟨u1,inf,u2,u3,u4,u5,u6⟩:=(hτ t).sl _ _ _ _ ht
  obtain⟨z1,Xw,z',z2,z3,z4⟩:=(hτ e).zero g hg
  have Xy:zv.cells.toList=g.cells:=by rw[u2] at z2;cases z2;rw[u3] at z3;cases z3;exact z4
  have xg:((Array.range (n*z)).map fun i=>zv.cells[i % zv.cells.size]!).toList=(List.replicate n g.cells).flatten:=by
   have:=qs (zero:=zv.cells) n (by omega)
   rw[u6] at this
   rw[←Xy]
   simpa only[u6] using this
  obtain⟨s',c',k1,k2,k3,k4⟩:=xw he parts.toList (AV.ofList (List.replicate n (AV.rz g))) _ (by rw[xg];exact kI z1 n) h3
  obtain⟨k0,k1,k5,k6⟩:=k1
  have hR:=Rel.ags (z:=z) (n:=n) hd hs hi he hp k2 k0 (fun x hx=>⟨MU (by rw[hx];exact k1),by rw[←T.cX,hx];exact k5⟩) (by omega) e
  refine⟨_,_,_,_,_,k6,?_,.inl rfl,hR,fun _=>nv _ _⟩
  have hmap:(parts.map fun (i,x)=>(i,a.eval x)).toList=parts.toList.map fun (i,x)=>(i,a.eval x):=by simp
  simp only[execOp,Instr.buildSlice,Sem.run_bind,run_underlying u1,Result.andThen_ok,sizeOf,typeInfo]
  simp[u2,u4]
  rw[if_neg (by omega)]
  by_cases h0z:n*z=0
  ·rw[if_pos h0z]
   have:((Array.range (n*z)).map fun _=>(default:Value))=(Array.range (n*z)).map fun i=>zv.cells[i % zv.cells.size]!:=by simp[h0z]
   rw[this]
   have k4':Instr.fill (fun i=>some (i*z,z)) ((Array.range (n*z)).map fun i=>zv.cells[i % zv.cells.size]!) (parts.toList.map fun x=>(x.1,a.eval x.2))=some c':=k4
   simp[k4',newRow]
  ·rw[if_neg h0z]
   have k4':Instr.fill (fun i=>some (i*z,z)) ((Array.range (n*z)).map fun i=>zv.cells[i % zv.cells.size]!) (parts.toList.map fun x=>(x.1,a.eval x.2))=some c':=k4
   simp[zeroValue,typeInfo,u2,u3,k4',newRow]
 · -- append
  rename_i cc
  split at hv
  case h_2=>exact hv.elim
  rename_i x y t u dc hargs P3
  split at hv
  case h_2=>exact hv.elim
  rename_i e z cL zv ht
  obtain⟨rfl,hv⟩:=hv
  obtain⟨av,st',v',w',g1,g2,g3⟩:=Eh hτ hd hs hi he hp (ty:=ty) ht (he.jO (τ:=τ) t x) (he.jO (τ:=τ) t y) hv
  refine⟨av,st',v',w',_,g1,?_,.inl rfl,g3,fun h=>by rw[ff,dc] at h;cases h⟩
  have h1:cc.args.map a.eval=#[a.eval x,a.eval y]:=by
   apply Array.ext'
   simp[hargs]
  have h2:cc.argTypes=#[t,t]:=by
   apply Array.ext'
   simp[P3]
  simp[execOp,resolve,dc,h1,h2,invoke,builtin,g2]
 ·exact hv.elim
end Go.Vc

namespace Go.Vc
set_option linter.all false
open T (cM blk gM j9 gi dm)
section
variable {c:Cx} {X:List D} {κ:List (Nat×Path)} {w w':World} {I:Nat→Prop} {F:List G}
theorem jo.sL(hi:Inv c X κ w I F){k:Nat}{g g2:G}(hk:F[k]? = some g)(rN:T.Holds w'.heap I g2)(hc:g2.cells=g.cells)(ho:∀b,g2.owned.count b≤g.owned.count b)
  (hh:∀b,b∉g.owned→w'.heap[b]? = w.heap[b]?) (hsz:w'.heap.size=w.heap.size) (hos:w'.os=w.os) (ht:w'.tape=w.tape) (hp:w'.output=w.output) {κ1:List (Nat×Path)}
  (hl:∀q,dead κ1 k q false=false→g2.loc q=g.loc q) (hd:∀q,dead κ1 k q true=false→cM (g2.at_ q)=cM (g.at_ q))
  (hj:∀q v,g.at_ q=.aH v→dead κ1 k q true=false→g2.at_ q=.aH v):jo w w' I I F (F.set k g2) κ1 c.F0.length:=by
 have mc:=(List.getElem?_eq_some_iff.1 hk).1
 have jm:∀b,(own (F.set k g2)).count b≤(own F).count b:=fun b=>by
  have h1:=cQ hk g2 b
  have h2:=ho b
  omega
 have hmem:∀b∈own (F.set k g2),b∈own F:=fun b hb=>by
  have:=jm b
  rw[aq] at *;omega
 have VL:∀b∈g.owned,b∈own F:=fun b hb=>fS hk hb
 refine⟨?_,bu fun b=>Nat.le_trans (jm b) (aS hi.nodup b),fun b hb=>hi.apart b (hmem b hb),fun b hb=>.inl (hmem b hb),fun b hb=>by rw[hsz];exact hi.lt b (hmem b hb),fun b hb=>by rw[hsz];exact hi.ic b hb,
  fun b _ hn=>hh b fun h=>hn (VL b h),by omega,hos,ht,hp,fun _ h=>h,fun _ h=>.inl h,?_⟩
 ·intro g' hg'
  obtain⟨i,zy⟩:=List.getElem?_of_mem hg'
  by_cases e:k=i
  ·subst e
   rw[List.getElem?_set_self mc] at zy
   cases zy;exact rN
  ·rw[List.getElem?_set_ne e] at zy
   refine(hi.holds g' (List.mem_of_getElem? zy)).agree (fun b hb=>?_) (fun b hb=>hh b fun h=>hi.apart b (VL b h) hb) fun _ h=>h
   refine hh b fun hm=>?_
   have h1:=kf zy hk (Ne.symm e) b
   have h3:=aS hi.nodup b
   rw[aq] at hb hm
   omega
 ·intro j g' hg'
  by_cases e:k=j
  ·subst e
   rw[hk] at hg'
   cases hg'
   exact⟨g2,List.getElem?_set_self mc,fun _=>hc,hl,hd,hj⟩
  ·exact⟨g',by rw[List.getElem?_set_ne e];exact hg',fun _=>rfl,fun _ _=>rfl,fun _ _=>rfl,fun _ _ h _=>h⟩
end
theorem mA{F:List G}{k:Nat}{g:G}(hk:F[k]? = some g)(b:Nat):g.owned.count b≤(own F).count b:=by
 have:=cQ hk (.nil) b
 simp only[T.owned,List.count_nil] at this;omega
theorem jf{k:Nat}{p q:Path}{s:Bool}:dead [(k,p)] k q s=(ah p q&&(s||decide (p.length<q.length))):=by simp[dead]
section
variable {c:Cx} {X:List D} {κ:List (Nat×Path)} {w w':World} {I:Nat→Prop} {F:List G}
theorem jo.aaX(hi:Inv c X κ w I F){k k2:Nat}{g gx g2:G}{a2:Value}(hk:F[k]? = some g)(hk2:F[k2]? = some gx)(hne:k2≠k)(hb:c.F0.length≤k2)(YT:a2.oneCell'=true)(rN:T.Holds w'.heap I g2)(hc:g2.cells=g.cells)
  (ho:∀b,g2.owned.count b≤g.owned.count b+gx.owned.count b) (hh:∀b,b∉g.owned→w'.heap[b]? = w.heap[b]?) (hsz:w'.heap.size=w.heap.size) (hos:w'.os=w.os) (ht:w'.tape=w.tape) (hp:w'.output=w.output) {κ1:List (Nat×Path)}
  (hl:∀q,dead κ1 k q false=false→g2.loc q=g.loc q) (hd:∀q,dead κ1 k q true=false→cM (g2.at_ q)=cM (g.at_ q))
  (hj:∀q v,g.at_ q=.aH v→dead κ1 k q true=false→g2.at_ q=.aH v):jo w w' I I F ((F.set k2 (.aH a2)).set k g2) (κ1++[(k2,[])]) c.F0.length:=by
 have mc:=(List.getElem?_eq_some_iff.1 hk).1
 have Cz:=(List.getElem?_eq_some_iff.1 hk2).1
 have hk':(F.set k2 (.aH a2))[k]? = some g:=by rw[List.getElem?_set_ne hne];exact hk
 have jm:∀b,(own ((F.set k2 (.aH a2)).set k g2)).count b≤(own F).count b:=fun b=>by
  have h1:=cQ hk' g2 b
  have h2:=ho b
  have h3:=cQ hk2 (.aH a2) b
  simp only[T.owned,List.count_nil] at h3
  omega
 have hmem:∀b∈own ((F.set k2 (.aH a2)).set k g2),b∈own F:=fun b hb=>by
  have:=jm b
  rw[aq] at *;omega
 have VL:∀b∈g.owned,b∈own F:=fun b hb=>fS hk hb
 refine⟨?_,bu fun b=>Nat.le_trans (jm b) (aS hi.nodup b),fun b hb=>hi.apart b (hmem b hb),fun b hb=>.inl (hmem b hb),fun b hb=>by rw[hsz];exact hi.lt b (hmem b hb),fun b hb=>by rw[hsz];exact hi.ic b hb,
  fun b _ hn=>hh b fun h=>hn (VL b h),by omega,hos,ht,hp,fun _ h=>h,fun _ h=>.inl h,?_⟩
 ·intro g' hg'
  obtain⟨i,zy⟩:=List.getElem?_of_mem hg'
  by_cases e:k=i
  ·subst e
   rw[List.getElem?_set_self (by simpa using mc)] at zy
   cases zy;exact rN
  ·rw[List.getElem?_set_ne e] at zy
   by_cases e2:k2=i
   ·subst e2
    rw[List.getElem?_set_self Cz] at zy
    cases zy;exact YT
   ·rw[List.getElem?_set_ne e2] at zy
    refine(hi.holds g' (List.mem_of_getElem? zy)).agree (fun b hb=>?_) (fun b hb=>hh b fun h=>hi.apart b (VL b h) hb) fun _ h=>h
    refine hh b fun hm=>?_
    have h1:=kf zy hk (Ne.symm e) b
    have h3:=aS hi.nodup b
    rw[aq] at hb hm
    omega
 ·intro j g' hg'
  by_cases e:k=j
  ·subst e
   rw[hk] at hg'
   cases hg'
   refine⟨g2,List.getElem?_set_self (by simpa using mc),fun _=>hc,fun q hq=>hl q ?_,fun q hq=>hd q ?_,fun q v hv hq=>hj q v hv ?_⟩<;>(rw[aM,Bool.or_eq_false_iff] at hq;exact hq.1)
  ·by_cases e2:k2=j
   ·subst e2
    refine⟨.aH a2,by rw[List.getElem?_set_ne e];exact List.getElem?_set_self Cz,fun h=>by omega,fun q hq=>?_,fun q hq=>?_,fun q v _ hq=>?_⟩
    ·rw[aM,Bool.or_eq_false_iff] at hq
     cases q with
     | nil=>simp[T.loc]
     | cons st q=>have:=hq.2;simp[dead,ah] at this
    ·rw[aM,Bool.or_eq_false_iff] at hq
     have:=hq.2;simp[dead,ah] at this
    ·rw[aM,Bool.or_eq_false_iff] at hq
     have:=hq.2;simp[dead,ah] at this
   ·exact⟨g',by rw[List.getElem?_set_ne e,List.getElem?_set_ne e2];exact hg',fun _=>rfl,fun _ _=>rfl,fun _ _=>rfl,fun _ _ h _=>h⟩
end
def AV.kg:AV→Option D
 | .val v=>some (.val v)
 | .bE z=>some (.sl false () z .nil)
 | .cA z s _=>some (.sl false () z s)
 | .nil=>some .nil
 | .cons a t=>match a.kg,t.kg with
  | some x,some y=>some (.cons x y)
  | _,_=>none
 | .agg s=>match s.kg with
  | some x=>some (.agg x)
  | none=>none
 | _=>none
def AV.flat:AV→Option D
 | .val v=>some (.val v)
 | .bE z=>some (.sl false () z .nil)
 | .cA z s _=>some (.sl false () z s)
 | .agg s=>match s.kg with
  | some x=>some (.agg x)
  | none=>none
 | _=>none
def oL {α:Type}:List (T α)→T α
 | []=>.nil
 | a::l=>.cons a (oL l)
theorem S9{h:Array Obj}{I:Nat→Prop}{F:List G}{av:AV}:∀{cs:List Value} {d:D},Rl h I F av false cs→av.kg=some d →
  ∃x:G,x.erase=d∧x.cells=cs∧T.Holds h I x∧x.owned=[]:=by
 induction av with
 | val u =>
  intro cs d H hd
  simp only[AV.kg,Option.some.injEq] at hd
  obtain⟨rfl,h2⟩:=H
  exact⟨.val u,hd,rfl,h2,rfl⟩
 | bE z =>
  intro cs d H hd
  simp only[AV.kg,Option.some.injEq] at hd
  cases H
  exact⟨.sl false (.slice none 0 0) z .nil,hd,rfl,⟨trivial,trivial,fun _=>rfl,rfl,rfl,rfl⟩,rfl⟩
 | cA z s ex =>
  intro cs d H hd
  simp only[AV.kg,Option.some.injEq] at hd
  obtain⟨v',rfl,s',rfl,h3,_⟩:=H
  exact⟨.sl false v' z s',hd,rfl,h3,rfl⟩
 | nil =>
  intro cs d H hd
  simp only[AV.kg,Option.some.injEq] at hd
  cases H
  exact⟨.nil,hd,rfl,trivial,rfl⟩
 | cons a t kz bO =>
  intro cs d H hd
  obtain⟨v1,v2,rfl,h1,h2⟩:=H
  simp only[AV.kg] at hd
  split at hd
  ·rename_i x y ex ey
   cases hd
   obtain⟨x1,p1,p2,p3,p4⟩:=kz h1 ex
   obtain⟨y1,q1,q2,q3,q4⟩:=bO h2 ey
   exact⟨.cons x1 y1,by simp[T.erase,p1,q1],by simp[T.cells,p2,q2],⟨p3,q3⟩,by simp[T.owned,p4,q4]⟩
  ·cases hd
 | agg s ih =>
  intro cs d H hd
  simp only[AV.kg] at hd
  split at hd
  ·rename_i x ex
   cases hd
   obtain⟨x1,p1,p2,p3,p4⟩:=ih (cs:=cs) H ex
   exact⟨.agg x1,by simp[T.erase,p1],p2,p3,p4⟩
  ·cases hd
 | _=>intro cs d H hd;cases hd
theorem kY{v:Value}(h:j9 v=false):v.cells.toList=[v]:=by cases v<;>first|rfl|cases h
theorem Ta{v:Value}(h:v.oneCell'=true):j9 v=false:=by cases v<;>first|rfl|cases h
theorem Xu{h:Array Obj}{I:Nat→Prop}{F:List G}{av:AV}{v:Value}{d:D}(H:Rl h I F av true [v])(hd:av.flat=some d) :
  ∃x:G,x.erase=d∧x.cells=v.cells.toList∧T.Holds h I x∧x.owned=[]∧gM x=j9 v:=by
 have one:∀{v:Value},v.oneCell'=true→j9 v=false:=Ta
 cases av<;>simp only[AV.flat,Option.some.injEq] at hd<;>try cases hd
 case val u =>
  obtain⟨h1,h2⟩:=H
  simp only[List.cons.injEq,and_true] at h1
  subst h1
  exact⟨.val v,rfl,(kY (one h2)).symm,h2,rfl,(one h2).symm⟩
 case bE z =>
  simp only[Rl,List.cons.injEq,and_true] at H
  subst H
  exact⟨.sl false (.slice none 0 0) z .nil,rfl,rfl,⟨trivial,trivial,fun _=>rfl,rfl,rfl,rfl⟩,rfl,rfl⟩
 case cA z s ex =>
  obtain⟨v',h1,s',h2,h3,_⟩:=H
  simp only[List.cons.injEq,and_true] at h1
  subst h1
  subst h2
  have hs:=h3.2.2.2
  have Cj:j9 v=false:=by
   cases v<;>first|rfl|exact hs.elim
  exact⟨.sl false v z s',rfl,(kY Cj).symm,h3,rfl,by rw[Cj];rfl⟩
 case agg s =>
  obtain⟨cs,h1,h2⟩:=H
  simp only[List.cons.injEq,and_true] at h1
  subst h1
  split at hd
  ·rename_i x ex
   cases hd
   obtain⟨x1,p1,p2,p3,p4⟩:=S9 h2 ex
   exact⟨.agg x1,by simp[T.erase,p1],by simp[T.cells,p2,Value.cells],p3,p4,rfl⟩
  ·cases hd
def AV.keys:AV→Option (List Value)
 | .nil=>some []
 | .cons (.val v) t=>match t.keys with
  | some l=>some (v::l)
  | none=>none
 | _=>none
def AV.key:AV→Option Value
 | .val v=>some v
 | .agg s=>match s.keys with
  | some l=>some (.agg l.toArray)
  | none=>none
 | _=>none
theorem KB{h:Array Obj}{I:Nat→Prop}{F:List G}:∀{s:AV} {l cs:List Value},s.keys=some l→Rl h I F s false cs→cs=l
 | .nil,l,cs,hl,H=>by cases hl;exact H
 | .cons (.val v) t,l,cs,hl,H=>by
  simp only[AV.keys] at hl
  split at hl
  ·rename_i m hm
   cases hl
   obtain⟨v1,v2,rfl,⟨rfl,_⟩,h2⟩:=H
   rw[KB hm h2];rfl
  ·cases hl
theorem AQ{h:Array Obj}{I:Nat→Prop}{F:List G}{av:AV}{k v:Value}(hk:av.key=some k)(H:Rl h I F av true [v]):v=k:=by
 unfold AV.key at hk
 split at hk
 ·cases hk;obtain⟨e,_⟩:=H;injection e
 ·split at hk
  ·rename_i l hl
   cases hk
   obtain⟨cs,e,h2⟩:=H
   injection e with e
   rw[e,KB hl h2]
  ·cases hk
 ·cases hk
def fh (d:KK):D→Prop
 | .nil=>True
 | .cons (.agg (.cons K (.cons _ .nil))) t=>(∃k,K=gi k∧d.is k)∧fh d t
 | _=>False
section
variable {α:Type}
open Classical in
noncomputable def iT (key:Value):T α→Option (T α)
 | .cons (.agg (.cons K (.cons v .nil))) t=>if K=gi key then some v else iT key t
 | _=>none
open Classical in
noncomputable def mix (key:Value):T α→Nat
 | .cons (.agg (.cons K (.cons _ .nil))) t=>if K=gi key then 0 else mix key t+1
 | _=>0
open Classical in
noncomputable def ig (key:Value) (u:T α):T α→T α
 | .cons (.agg (.cons K (.cons v .nil))) t=>if K=gi key then .cons (.agg (.cons K (.cons u .nil))) t else .cons (.agg (.cons K (.cons v .nil))) (ig key u t)
 | _=>.cons (.agg (.cons (gi key) (.cons u .nil))) .nil
open Classical in
noncomputable def nO (key:Value):T α→T α
 | .cons (.agg (.cons K (.cons v .nil))) t=>if K=gi key then t else .cons (.agg (.cons K (.cons v .nil))) (nO key t)
 | _=>.nil
end
theorem bq{es:List MapEntry}{g:G}(h:T.aD es g):(es=[]∧g=.nil)∨∃e es' v t,es=e::es'∧g=.cons (.agg (.cons (gi e.key) (.cons v .nil))) t∧v.cells=e.val.cells.toList∧gM v=j9 e.val∧T.aD es' t:=by
 unfold T.aD at h
 split at h
 ·exact .inl ⟨rfl,rfl⟩
 ·obtain⟨h1,⟨h2,h3⟩,h4⟩:=h
  subst h1
  exact .inr ⟨_,_,_,_,rfl,rfl,h2,h3,h4⟩
 ·exact h.elim
theorem wY{d:KK}{es:List MapEntry}:∀{g:G},T.aD es g→fh d g.erase→∀x∈es,d.is x.key:=by
 induction es with
 | nil=>intro g _ _ x hx;cases hx
 | cons e es ih =>
  intro g h hk x hx
  rcases bq h with ⟨h,_⟩|⟨e',es',v,t,he,rfl,h2,h3,h4⟩
  ·cases h
  ·cases he
   simp only[T.erase,T.cN] at hk
   obtain⟨⟨k,k1,k1'⟩,k2⟩:=hk
   rcases List.mem_cons.1 hx with rfl|hx
   ·rw[dm k1];exact k1'
   ·exact ih h4 k2 x hx
theorem wZ{es:List MapEntry}{key:Value}{u:G}:∀{g:G},T.aD es g→(ig key u g).erase=ig key u.erase g.erase:=by
 induction es with
 | nil =>
  intro g h
  rcases bq h with ⟨_,rfl⟩|⟨_,_,_,_,h,_⟩
  ·simp only[ig,T.erase,T.cN]
  ·cases h
 | cons e es ih =>
  intro g h
  rcases bq h with ⟨h,_⟩|⟨e',es',v,t,he,rfl,h2,h3,h4⟩
  ·cases h
  ·cases he
   simp only[ig,T.erase,T.cN]
   by_cases hq:e.key=key
   ·rw[if_pos (by rw[hq]),if_pos (by rw[hq])];simp only[T.erase,T.cN]
   ·rw[if_neg (fun h=>hq (dm h)),if_neg (fun h=>hq (dm h))];simp only[T.erase,T.cN,ih h4]
theorem G7{es:List MapEntry}{key:Value}:∀{g:G},T.aD es g→(nO key g).erase=nO key g.erase:=by
 induction es with
 | nil =>
  intro g h
  rcases bq h with ⟨_,rfl⟩|⟨_,_,_,_,h,_⟩
  ·rfl
  ·cases h
 | cons e es ih =>
  intro g h
  rcases bq h with ⟨h,_⟩|⟨e',es',v,t,he,rfl,h2,h3,h4⟩
  ·cases h
  ·cases he
   simp only[nO,T.erase,T.cN]
   by_cases hq:e.key=key
   ·rw[if_pos (by rw[hq]),if_pos (by rw[hq])]
   ·rw[if_neg (fun h=>hq (dm h)),if_neg (fun h=>hq (dm h))];simp only[T.erase,T.cN,ih h4]
theorem w5{es:List MapEntry}{key:Value}{u:G}(b:Nat):∀{g:G},T.aD es g→(ig key u g).owned.count b≤g.owned.count b+u.owned.count b:=by
 induction es with
 | nil =>
  intro g h
  rcases bq h with ⟨_,rfl⟩|⟨_,_,_,_,h,_⟩
  ·simp[ig,T.owned,T.ry]
  ·cases h
 | cons e es ih =>
  intro g h
  rcases bq h with ⟨h,_⟩|⟨e',es',v,t,he,rfl,h2,h3,h4⟩
  ·cases h
  ·cases he
   simp only[ig]
   split
   ·simp only[T.owned,T.ry,List.count_append,List.count_nil];omega
   ·have:=ih h4
    simp only[T.owned,T.ry,List.count_append,List.count_nil];omega
theorem G8{es:List MapEntry}{key:Value}(b:Nat):∀{g:G},T.aD es g→(nO key g).owned.count b≤g.owned.count b:=by
 induction es with
 | nil =>
  intro g h
  rcases bq h with ⟨_,rfl⟩|⟨_,_,_,_,h,_⟩
  ·simp[nO]
  ·cases h
 | cons e es ih =>
  intro g h
  rcases bq h with ⟨h,_⟩|⟨e',es',v,t,he,rfl,h2,h3,h4⟩
  ·cases h
  ·cases he
   simp only[nO]
   split
   ·simp only[T.owned,List.count_append];omega
   ·have:=ih h4
    simp only[T.owned,List.count_append];omega
theorem G9{h:Array Obj}{I:Nat→Prop}{d:KK}{k:Value}(hk:d.is k):T.Holds h I (gi k):=by
 cases d<;>cases k<;>first|exact hk.elim|exact rfl|skip
 obtain⟨a,b,rfl⟩:=hk
 exact⟨rfl,rfl,trivial⟩
theorem w6{h:Array Obj}{I:Nat→Prop}{es:List MapEntry}{d:KK}{key:Value}{u:G}(hk:d.is key)(hu:T.Holds h I u):∀{g:G},T.aD es g→T.Holds h I g→T.Holds h I (ig key u g):=by
 induction es with
 | nil =>
  intro g h hg
  rcases bq h with ⟨_,rfl⟩|⟨_,_,_,_,h,_⟩
  ·exact⟨⟨G9 hk,hu,trivial⟩,trivial⟩
  ·cases h
 | cons e es ih =>
  intro g h hg
  rcases bq h with ⟨h,_⟩|⟨e',es',v,t,he,rfl,h2,h3,h4⟩
  ·cases h
  ·cases he
   obtain⟨g1,g2⟩:=hg
   simp only[ig]
   split
   ·exact⟨⟨g1.1,hu,trivial⟩,g2⟩
   ·exact⟨g1,ih h4 g2⟩
theorem He{h:Array Obj}{I:Nat→Prop}{es:List MapEntry}{key:Value}:∀{g:G},T.aD es g→T.Holds h I g→T.Holds h I (nO key g):=by
 induction es with
 | nil =>
  intro g h hg
  rcases bq h with ⟨_,rfl⟩|⟨_,_,_,_,h,_⟩
  ·exact trivial
  ·cases h
 | cons e es ih =>
  intro g h hg
  rcases bq h with ⟨h,_⟩|⟨e',es',v,t,he,rfl,h2,h3,h4⟩
  ·cases h
  ·cases he
   obtain⟨g1,g2⟩:=hg
   simp only[nO]
   split
   ·exact g2
   ·exact⟨g1,ih h4 g2⟩
theorem AR{key:Value}:∀{es:List MapEntry} {g:G},T.aD es g→(∀x∈es,x.key≠key) →
  iT key g.erase=none∧nO key g=g∧∀(u:G) (val:Value) (c:Nat),u.cells=val.cells.toList→gM u=j9 val→T.aD (es++[⟨key,val,c⟩]) (ig key u g)
 | [],g,h,_=>by
  rcases bq h with ⟨_,rfl⟩|⟨_,_,_,_,h,_⟩
  ·exact⟨rfl,rfl,fun u val c h1 h2=>⟨rfl,⟨h1,h2⟩,trivial⟩⟩
  ·cases h
 | e::es,g,h,hn=>by
  rcases bq h with ⟨h,_⟩|⟨e',es',v,t,he,rfl,h2,h3,h4⟩
  ·cases h
  ·cases he
   have hne:¬e.key=key:=hn e List.mem_cons_self
   obtain⟨q1,q2,q3⟩:=AR h4 fun x hx=>hn x (List.mem_cons_of_mem _ hx)
   refine⟨?_,?_,fun u val c p1 p2=>?_⟩
   ·simp only[T.erase,iT,T.cN];rw[if_neg (fun h=>hne (dm h))];exact q1
   ·simp only[nO];rw[if_neg (fun h=>hne (dm h)),q2]
   ·simp only[ig];rw[if_neg (fun h=>hne (dm h))];exact⟨rfl,⟨h2,h3⟩,q3 u val c p1 p2⟩
theorem AS{key:Value}:∀{es:List MapEntry} {g:G},T.aD es g→(es.map (·.key)).Nodup→∀{j:Nat} {e:MapEntry},es[j]? = some e→e.key=key →
  ∃x:G,iT key g.erase=some x.erase∧mix key g.erase=j∧j<g.len∧g.nth j=.agg (.cons (gi key) (.cons x .nil))∧x.cells=e.val.cells.toList∧gM x=j9 e.val ∧
   T.aD (es.eraseIdx j) (nO key g)∧∀(u:G) (val:Value),u.cells=val.cells.toList→gM u=j9 val→T.aD (es.set j { e with key:=key,val:=val }) (ig key u g)
 | [],g,h,_,j,e,hj,_=>by simp at hj
 | e0::es,g,h,hn,j,e,hj,AN=>by
  rcases bq h with ⟨h,_⟩|⟨e',es',v,t,he,rfl,h2,h3,h4⟩
  ·cases h
  ·cases he
   simp only[List.map_cons,List.nodup_cons] at hn
   cases j with
   | zero =>
    simp only[List.getElem?_cons_zero,Option.some.injEq] at hj
    subst hj
    refine⟨v,?_,?_,by simp[T.len],by simp[T.nth,AN],h2,h3,?_,fun u val q1 q2=>?_⟩
    ·simp only[T.erase,iT,T.cN];rw[if_pos (by rw[AN])]
    ·simp only[T.erase,mix,T.cN];rw[if_pos (by rw[AN])]
    ·simp only[nO];rw[if_pos (by rw[AN])];exact h4
    ·simp only[ig];rw[if_pos (by rw[AN])];exact⟨by rw[AN],⟨q1,q2⟩,h4⟩
   | succ j =>
    simp only[List.getElem?_cons_succ] at hj
    have hne:¬e0.key=key:=fun h=>hn.1 (List.mem_map.2 ⟨e,List.mem_of_getElem? hj,by rw[h];exact AN⟩)
    obtain⟨x,x1,x2,x3,x4,x5,x6,x7,x8⟩:=AS h4 hn.2 hj AN
    refine⟨x,?_,?_,by simp only[T.len];omega,by simpa[T.nth] using x4,x5,x6,?_,fun u val q1 q2=>?_⟩
    ·simp only[T.erase,iT,T.cN];rw[if_neg (fun h=>hne (dm h))];exact x1
    ·simp only[T.erase,mix,T.cN];rw[if_neg (fun h=>hne (dm h)),x2]
    ·simp only[nO];rw[if_neg (fun h=>hne (dm h)),List.eraseIdx_cons_succ];exact⟨rfl,⟨h2,h3⟩,x7⟩
    ·simp only[ig];rw[if_neg (fun h=>hne (dm h)),List.set_cons_succ];exact⟨rfl,⟨h2,h3⟩,x8 u val q1 q2⟩
def ua (ok b:Bool) (av:AV):AV:=bif ok then .cT (.cons av (.cons (.val (.bool b)) .nil)) else av
def AV.nV:AV→Bool
 | .agg _=>true
 | a=>a.dx
theorem Rl.nV{h:Array Obj}{I:Nat→Prop}{F:List G}{av:AV}{v:Value}(h1:av.nV=true)(hv:(∃s,av=.agg s)↔j9 v=true)(H:Rl h I F av false v.cells.toList):Rl h I F av true [v]:=by
 by_cases ha:∃s,av=.agg s
 ·obtain⟨s,rfl⟩:=ha
  have:=hv.1 ⟨s,rfl⟩
  cases v<;>simp only[j9] at this<;>first|cases this|skip
  exact⟨_,by simp[Value.cells],H⟩
 ·have Cj:j9 v=false:=by
   cases hq:j9 v with
   | false=>rfl
   | true=>exact absurd (hv.2 hq) ha
  rw[kY Cj] at H
  have h2:av.dx=true:=by
   cases av<;>first|exact h1|exact absurd ⟨_,rfl⟩ ha
  obtain⟨u,e,h3,_⟩:=H.Tc h2
  cases e;exact h3
def AT (τ:bg) (e:TypeId) (ok:Bool) (K:AV→Prop):Prop :=
 match (τ e).zero with
 | some g=>(AV.rz g).nV=true∧K (ua ok false (AV.rz g))
 | none=>False
def Hf (τ:bg) (st:St) (t:TypeId) (x ix:Operand) (ok:Bool) (K:AV→Prop):Prop :=
 match st.ev x,(st.ev ix).key,(τ t).mp with
 | .mp k q,some key,some (e,kd)=>match (st.tree k).at_ q with
  | .map _ _ s=>fh kd s∧kd.is key∧match iT key s with
   | some v=>ei v false=true∧K (ua ok true (AV.pe st.pl k (q++[.i (mix key s),.f 1]) 0 v))
   | none=>AT τ e ok K
  | _=>False
 | .val (.map none),some key,some (e,kd)=>kd.is key∧AT τ e ok K
 | _,_,_=>False
def St.entries (nb:Nat) (st:St) (k:Nat) (s:D) (more:List (Nat×Path)) (X:List D):St where
 env:=st.env.kill ((k,[.i 0])::more)
 X:=X.set k (.map true () s)
 κ:=(bif Nat.ble nb k then [] else [(k,[.i 0])])++st.κ
 pl:=dK ((k,[.i 0])::more) st.pl
def Td (τ:bg) (nb:Nat) (st:St) (t:TypeId) (m x y:Operand) (K:AV→St→Prop):Prop :=
 match st.ev m,(st.ev x).key,(τ t).mp with
 | .mp k [],some key,some (e,kd)=>match st.X[k]? with
  | some (.map true () s)=>fh kd s∧kd.is key∧match st.jO τ e y with
   | .mp k2 q=>q=[]∧match st.X[k2]? with
    | some (.map true () s2)=>k2≠k∧nb≤k2∧K .bad (st.entries nb k (ig key (.map true () s2) s) [(k2,[])] (st.X.set k2 (.aH ())))
    | _=>False
   | yv=>match yv.flat with
    | some d=>K .bad (st.entries nb k (ig key d s) [] st.X)
    | none=>False
  | _=>False
 | _,_,_=>False
def Te (τ:bg) (nb:Nat) (st:St) (t:TypeId) (m x:Operand) (K:AV→St→Prop):Prop :=
 match st.ev m,(st.ev x).key,(τ t).mp with
 | .mp k [],some key,some (_,kd)=>match st.X[k]? with
  | some (.map true () s)=>fh kd s∧kd.is key∧K (.cT .nil) (st.entries nb k (nO key s) [] st.X)
  | _=>False
 | _,_,_=>False
def Tf (τ:bg) (nb:Nat) (st:St) (t:TypeId) (x:Operand) (K:AV→St→Prop):Prop :=
 match st.ev x,(τ t).sl with
 | .sub k [] lo n _,some (e,z,_,_)=>match st.X[k]?,(τ e).zero with
  | some (.sl true () z' s),some g=>z'=z∧lo+n=s.len ∧
    K (.cT .nil) { env:=st.env.kill [(k,[.i 0])],X:=st.X.set k (.sl true () z ((s.take lo).app (oL (List.replicate n g.erase)))),κ:=(bif Nat.ble nb k then [] else [(k,[.i 0])])++st.κ,pl:=dK [(k,[.i 0])] st.pl }
  | _,_=>False
 | _,_=>False
def Tg (τ:bg) (st:St) (t u:TypeId) (x y:Operand) (K:AV→St→Prop):Prop :=
 match st.jO τ t x,st.ev y,(τ t).sl,(τ u).int with
 | .bE _,.val (.int _ n),some (e,z,cL,_),some _=>match (τ e).zero with
  | some g=>0<n∧n*cL≤140737488355328∧n≤2 ^ 63-1∧K (.sub st.X.length [] 0 n.toNat false) { st with X:=st.X++[.sl true () z (oL (List.replicate n.toNat g.erase))] }
  | none=>False
 | _,_,_,_=>False
def lW (τ:bg) (nb:Nat) (o:Op) (st:St) (K:AV→St→Prop):Prop :=
 match o with
 | .lookup t x ix ok=>Hf τ st t x ix ok fun av=>K av st
 | .makeMap _ r=>r=none∧K (.mp st.X.length []) { st with X:=st.X++[.map true () .nil] }
 | .mapUpdate t m x y=>Td τ nb st t m x y K
 | .makeSlice t x y=>match st.ev x,st.ev y,(τ t).sl with
  | .val (.int _ n),.val (.int _ m),some (e,z,cL,_)=>match (τ e).zero with
   | some g=>n=m∧0≤n∧n*cL≤140737488355328∧n≤2 ^ 63-1∧g.width=z∧0<z∧K (.sub st.X.length [] 0 n.toNat true) { st with X:=st.X++[.sl true () z (oL (List.replicate n.toNat g.erase))] }
   | none=>False
  | _,_,_=>False
 | .call c=>match c.callee,c.args.toList,c.argTypes.toList with
  | .builtin .clear,[x],[t]=>Tf τ nb st t x K
  | .builtin .append,[x,y],[t,u]=>Tg τ st t u x y K
  | .builtin .delete,[x,y],[t,_]=>Te τ nb st t x y K
  | _,_,_=>False
 | _=>False
theorem Rl.flip{h:Array Obj}{I:Nat→Prop}{F:List G}{av:AV}{v:Value}(h1:av.dx=true)(H:Rl h I F av false [v]):Rl h I F av true [v]:=by
 cases av<;>simp only[AV.dx] at h1<;>first|exact H|cases h1
theorem Kv{pl:List (Nat×Path×AV)}{k:Nat}{q:Path}{g:G}(h:ei g false=true):(∃s,AV.pe pl k q 0 g.erase=.agg s)↔gM g=true:=by
 have:=sM pl k q g.erase
 constructor
 ·rintro⟨s,hs⟩
  cases g with
  | agg s=>rfl
  | aH a =>
   have h1:=uK pl k q
   simp only[T.erase,AV.pe] at hs
   rw[hs] at h1
   rcases h1 with h1|h1<;>simp[AV.dx] at h1
  | sl o a z s'=>cases o<;>simp[T.erase,AV.pe] at hs
  | box o a s'=>cases o<;>simp[T.erase,AV.pe] at hs
  | _=>simp[T.erase,AV.pe] at hs
 ·intro ha
  cases g<;>simp[gM] at ha
  exact⟨_,rfl⟩
theorem Xv{g:G}:(∃s,AV.rz g=.agg s)↔gM g=true:=by
 cases g<;>simp[AV.rz,gM]
theorem nP{c:Cx}{τ:bg}(hτ:bg.Ok c.P τ){e:TypeId}{ok:Bool}{K:AV→Prop}(hv:AT τ e ok K)(h:Array Obj)(I:Nat→Prop)(F:List G) :
  ∃av z,K av∧Rl h I F av true [if ok then .tuple #[z,.bool false] else z]∧∀w,(zeroValue e).run c.P w=.ok z w:=by
 unfold AT at hv
 split at hv
 case h_2=>exact hv.elim
 rename_i g hg
 obtain⟨hone,hK⟩:=hv
 obtain⟨z1,inf,z',z2,z3,z4⟩:=(hτ e).zero g hg
 obtain⟨Xw,z'',y2,y3,y4⟩:=(hτ e).aej g hg
 rw[z2] at y2;cases y2
 rw[z3] at y3;cases y3
 have hz:Rl h I F (AV.rz g) true [z']:=Rl.nV hone (by rw[Xv,y4]) (by rw[z4];exact w8 z1)
 refine⟨_,z',hK,?_,fun w=>by simp[zeroValue,typeInfo,z2,z3]⟩
 cases ok
 ·exact hz
 ·exact⟨[z',.bool false],rfl,_,_,rfl,hz,_,_,rfl,⟨rfl,rfl⟩,rfl⟩
theorem look_ok{c:Cx}{τ:bg}(hτ:bg.Ok c.P τ){st:St}{a:Act}{w:World}{I:Nat→Prop}{F:List G}(hi:Inv c st.X st.κ w I F)(he:bw st.env a w I F)(hp:dS st.pl w I F){t:TypeId}{x ix:Operand}{ok:Bool}
  {K:AV→Prop} (hv:Hf τ st t x ix ok K):∃av v,K av∧Rl w.heap I F av true [v]∧(Instr.lookup t (a.eval x) (a.eval ix) ok).run c.P w=.ok v w:=by
 unfold Hf at hv
 split at hv
 case h_3=>exact hv.elim
 case h_2 =>
  rename_i key e kd hx rY hmp
  obtain⟨hk2,hv⟩:=hv
  have oH:=he.ev x
  rw[hx] at oH
  obtain⟨vb,_⟩:=oH
  injection vb with vb _
  have AN:=AQ rY (he.ev ix)
  obtain⟨kt,Ck,Cl⟩:=(hτ t).mp e kd hmp
  obtain⟨av,z,h1,h2,h3⟩:=nP hτ hv w.heap I F
  refine⟨av,_,h1,h2,?_⟩
  have hfind:(Instr.findKey kt key []).run c.P w=.ok none w:=by
   rcases Cl.find w hk2 [] (fun e h=>by cases h) with ⟨h,_⟩|⟨j,e,_,h,_⟩
   ·exact h
   ·simp at h
  rw[vb,AN]
  cases ok<;>simp[Instr.lookup,run_underlying Ck,Cl.check _ _ hk2,hfind,h3,Result.andThen]
 rename_i k q key e kd hx rY hmp
 split at hv
 case h_2=>exact hv.elim
 rename_i o _ s hs
 obtain⟨YW,hk2,hv⟩:=hv
 have oH:=he.ev x
 rw[hx] at oH
 obtain⟨own,r,z,len,hh,vb⟩:=oH
 have AN:=AQ rY (he.ev ix)
 injection vb with vb _
 unfold bM at hh
 cases hf:F[k]? with
 | none=>rw[hf] at hh;simp at hh
 | some f =>
  rw[hf] at hh
  simp only[Option.bind_some] at hh
  have vo:(f.at_ q).erase=.map o () s:=by
   rw[T.bJ,←hs]
   unfold St.tree
   rw[←hi.erase,List.getD_eq_getElem?_getD,List.getElem?_map,hf];rfl
  obtain⟨a0,s0,WA,hs0⟩:∃a0 s0,f.at_ q=.map o a0 s0∧s0.erase=s:=by
   generalize f.at_ q=fq at vo
   cases fq<;>simp only[T.erase] at vo<;>cases vo
   exact⟨_,_,rfl,rfl⟩
  have hH:=(hi.holds f (List.mem_of_getElem? hf)).at_ q
  rw[WA] at hH hh
  simp only[cM,Option.some.injEq,Prod.mk.injEq] at hh
  obtain⟨_,rfl,_,_⟩:=hh
  obtain⟨H1,_,_,es,cl,hr,qC,hst⟩:=hH
  obtain⟨kt,Ck,Cl⟩:=(hτ t).mp e kd hmp
  subst hs0
  rw[vb,AN]
  have hks:=wY qC YW
  rcases Cl.find w hk2 es.toList hks with ⟨f1,f2⟩|⟨j,en,f1,f2,f3⟩
  ·rw[(AR qC f2).1] at hv
   obtain⟨av,z,h1,h2,h3⟩:=nP hτ hv w.heap I F
   refine⟨av,_,h1,h2,?_⟩
   cases ok<;>simp[Instr.lookup,run_underlying Ck,MapKept.run_getObj_map hr,Cl.check _ _ hk2,f1,h3,Result.andThen]
  ·obtain⟨x,x1,x2,x3,x4,x5,x6,_⟩:=AS qC hst.2.2 f2 f3
   rw[x1,x2] at hv
   obtain⟨hrow,hK⟩:=hv
   rw[ke] at hrow
   have hHx:T.Holds w.heap I x:=by
    have:=T.Holds.nth H1 j
    rw[x4] at this
    exact this.2.1
   have hat:f.at_ (q++[.i j,.f 1])=x:=by
    rw[T.cY,WA]
    simp only[T.at_,x4,T.nth]
   have hrl:=G1 hp hf x false (q++[.i j,.f 1]) 0 hrow hHx (fun _=>hat) (fun h=>by cases h)
   rw[x5] at hrl
   have hform:=sM st.pl k (q++[.i j,.f 1]) x.erase
   have hz:Rl w.heap I F (AV.pe st.pl k (q++[.i j,.f 1]) 0 x.erase) true [en.val]:=by
    by_cases ha:gM x=true
    ·have Cj:=ha;rw[x6] at Cj
     obtain⟨s',hs'⟩:=(Kv (pl:=st.pl) (k:=k) (q:=q++[.i j,.f 1]) hrow).2 ha
     rw[hs'] at hrl ⊢
     cases hval:en.val<;>rw[hval] at Cj hrl<;>simp only[j9] at Cj<;>first|cases Cj|skip
     exact⟨_,by simp[Value.cells],hrl⟩
    ·have Cj:j9 en.val=false:=by rw[←x6];simpa using ha
     rw[kY Cj] at hrl
     rcases hform.2 (fun s' hs'=>ha (by cases x<;>simp[T.erase] at hs';rfl)) (by rw[ke];exact hrow) with h1|h1
     ·exact Rl.flip h1 hrl
     ·rw[h1];exact⟨_,rfl⟩
   refine⟨_,if ok then .tuple #[en.val,.bool true] else en.val,hK,?_,?_⟩
   ·cases ok
    ·exact hz
    ·exact⟨[en.val,.bool true],rfl,_,_,rfl,hz,_,_,rfl,⟨rfl,rfl⟩,rfl⟩
   ·cases ok<;>simp[Instr.lookup,run_underlying Ck,MapKept.run_getObj_map hr,Cl.check _ _ hk2,f1,Result.andThen]
theorem sR{z:Nat}{x:G}(h:x.width=z):∀n,(oL (List.replicate n x)).nQ z
 | 0=>trivial
 | n+1=>⟨h,sR h n⟩
theorem mB{α:Type}(x:T α):∀n,(oL (List.replicate n x)).len=n
 | 0=>rfl
 | n+1=>by simp[List.replicate_succ,oL,T.len,mB x n]
theorem ql(x:G):∀n,(oL (List.replicate n x)).cells=(List.replicate n x.cells).flatten
 | 0=>rfl
 | n+1=>by simp[List.replicate_succ,oL,T.cells,ql x n]
theorem nq{h:Array Obj}{I:Nat→Prop}{x:G}(hx:T.Holds h I x):∀n,T.Holds h I (oL (List.replicate n x))
 | 0=>trivial
 | n+1=>⟨hx,nq hx n⟩
theorem qm{x:G}(hx:x.owned=[]):∀n,(oL (List.replicate n x)).owned=[]
 | 0=>rfl
 | n+1=>by simp[List.replicate_succ,oL,T.owned,hx,qm hx n]
theorem qn(x:G):∀n,(oL (List.replicate n x)).erase=oL (List.replicate n x.erase)
 | 0=>rfl
 | n+1=>by simp[List.replicate_succ,oL,T.erase,qn x n]
theorem rA(s:G)(k:Nat):(s.take k).erase=s.erase.take k:=by
 induction k generalizing s with
 | zero=>cases s<;>simp[T.take,T.erase]
 | succ k ih=>cases s<;>simp[T.take,T.erase,ih]
theorem qo{q:Path}:(q=[]∨(∃st q',q=st::q'∧∀k,st≠.i k))∨∃k q',q=.i k::q':=by
 cases q with
 | nil=>exact .inl (.inl rfl)
 | cons st q=>cases st<;>first|exact .inr ⟨_,_,rfl⟩|exact .inl (.inr ⟨_,_,rfl,fun k h=>by cases h⟩)
theorem D3{c:Cx}{st:St}{a:Act}{w:World}{I:Nat→Prop}{F:List G}(hi:Inv c st.X st.κ w I F)(he:bw st.env a w I F){m:Operand}{k:Nat}{s:D}(hm:st.ev m=.mp k [])(hX:st.X[k]? = some (.map true () s)) :
  ∃r g0 es cl,a.eval m=.map (some r)∧F[k]? = some (.map true (.map (some r)) g0)∧g0.erase=s∧T.Holds w.heap I g0∧w.heap[r]? = some (.map es cl)∧T.aD es.toList g0∧MapKept.Stamped es cl:=by
 have hmv:=he.ev m
 rw[hm] at hmv
 obtain⟨ow,r,z,len,hh,hme⟩:=hmv
 injection hme with hme _
 unfold bM at hh
 cases hf:F[k]? with
 | none=>rw[hf] at hh;simp at hh
 | some f =>
  rw[hf] at hh
  simp only[Option.bind_some,T.at_] at hh
  have vo:f.erase=.map true () s:=by
   have:=hX
   rw[←hi.erase,List.getElem?_map,hf] at this
   simpa using this
  obtain⟨a0,g0,rfl,nE⟩:∃a0 g0,f=.map true a0 g0∧g0.erase=s:=by
   cases f<;>simp only[T.erase] at vo<;>cases vo
   exact⟨_,_,rfl,rfl⟩
  have hH:=hi.holds _ (List.mem_of_getElem? hf)
  simp only[cM,Option.some.injEq,Prod.mk.injEq] at hh
  obtain⟨_,rfl,_,_⟩:=hh
  obtain⟨H1,_,_,es,cl,hr,qC,hst⟩:=id hH
  exact⟨r,g0,es,cl,hme,rfl,nE,H1,hr,qC,hst⟩
theorem Rel.entries{c:Cx}{st:St}{a:Act}{w:World}{I:Nat→Prop}{F:List G}(hd:oI c.w0.heap.size a.defers w)(hs:a.tmps.size=c.nt)(hi:Inv c st.X st.κ w I F)(he:bw st.env a w I F)(hp:dS st.pl w I F)
  {k r:Nat} {g0 g1:G} {es es':Array MapEntry} {cl zA:Nat} (hf:F[k]? = some (.map true (.map (some r)) g0)) (hr:w.heap[r]? = some (.map es cl)) (Hg:T.aD es'.toList g1) (Hh:MapKept.Stamped es' zA) {more:List (Nat×Path)} {X:List D}
  (aek:(more=[]∧X=st.X∧∀b,g1.owned.count b≤g0.owned.count b)∨∃k2 gx,more=[(k2,[])]∧X=st.X.set k2 (.aH ())∧F[k2]? = some gx∧k2≠k∧c.F0.length≤k2∧isNode gx=true∧∀b,g1.owned.count b≤g0.owned.count b+gx.owned.count b)
  (Ky:T.Holds ({ w with heap:=w.heap.setIfInBounds r (.map es' zA) }:World).heap I g1) :
  ∃F',oI c.w0.heap.size a.defers { w with heap:=w.heap.setIfInBounds r (.map es' zA) }∧a.tmps.size=c.nt∧Inv c (st.entries c.F0.length k g1.erase more X).X (st.entries c.F0.length k g1.erase more X).κ { w with heap:=w.heap.setIfInBounds r (.map es' zA) } I F' ∧
   bw (st.entries c.F0.length k g1.erase more X).env a { w with heap:=w.heap.setIfInBounds r (.map es' zA) } I F'∧dS (st.entries c.F0.length k g1.erase more X).pl { w with heap:=w.heap.setIfInBounds r (.map es' zA) } I F':=by
 have hrl:r<w.heap.size:=(Array.getElem?_eq_some_iff.1 hr).1
 have Ks:({ w with heap:=w.heap.setIfInBounds r (.map es' zA) }:World).heap[r]? = some (.map es' zA):=by simp[hrl]
 have jg:∀b,b≠r→({ w with heap:=w.heap.setIfInBounds r (.map es' zA) }:World).heap[b]? = w.heap[b]?:=fun b hb=>by simp[Array.getElem?_setIfInBounds_ne (Ne.symm hb)]
 have hmem:r∈(T.map true (.map (some r)) g0:G).owned:=by simp[T.owned,blk]
 have l1:∀q,dead [(k,[.i 0])] k q false=false→(T.map true (.map (some r)) g1:G).loc q=(T.map true (.map (some r)) g0:G).loc q:=fun q hq=>by
  rcases qo (q:=q) with (rfl|⟨s1,q',rfl,hs1⟩)|⟨i,q',rfl⟩
  ·simp[T.loc]
  ·cases s1<;>first|exact absurd rfl (hs1 _)|simp[T.loc]
  ·rw[jf] at hq
   simp only[ah,Bool.true_and,Bool.false_or,decide_eq_false_iff_not,List.length_cons,List.length_nil,Nat.zero_add,Bool.and_eq_false_iff] at hq
   cases q' with
   | cons _ _=>simp at hq
   | nil=>simp only[T.loc];split<;>split<;>first|rfl|(simp[T.loc])
 have l2:∀q,dead [(k,[.i 0])] k q true=false→cM ((T.map true (.map (some r)) g1:G).at_ q)=cM ((T.map true (.map (some r)) g0:G).at_ q):=fun q hq=>by
  rcases qo (q:=q) with (rfl|⟨s1,q',rfl,hs1⟩)|⟨i,q',rfl⟩
  ·simp[T.at_,cM]
  ·cases s1<;>first|exact absurd rfl (hs1 _)|simp[T.at_]
  ·rw[jf] at hq;simp[ah] at hq
 have l3:∀q v,(T.map true (.map (some r)) g0:G).at_ q=.aH v→dead [(k,[.i 0])] k q true=false→(T.map true (.map (some r)) g1:G).at_ q=.aH v:=fun q v hj hq=>by
  rcases qo (q:=q) with (rfl|⟨s1,q',rfl,hs1⟩)|⟨i,q',rfl⟩
  ·simp[T.at_] at hj
  ·cases s1<;>first|exact absurd rfl (hs1 _)|simp[T.at_] at hj
  ·rw[jf] at hq;simp[ah] at hq
 have rN:T.Holds ({ w with heap:=w.heap.setIfInBounds r (.map es' zA) }:World).heap I (.map true (.map (some r)) g1):=⟨Ky,(by intro h;cases h),(by intro h;cases h),es',zA,Ks,Hg,Hh⟩
 rcases aek with ⟨rfl,rfl,ho⟩|⟨k2,gx,rfl,rfl,hk2,hne,hb,nu,ho⟩
 ·have S:=jo.sL hi hf (g2:=.map true (.map (some r)) g1) (w':={ w with heap:=w.heap.setIfInBounds r (.map es' zA) }) rN rfl
   (fun b=>by have:=ho b;simp only[T.owned,List.count_append];omega) (fun b hb=>jg b fun e=>hb (e▸hmem)) (by simp) rfl rfl rfl (κ1:=[(k,[.i 0])]) l1 l2 l3
  refine⟨F.set k (.map true (.map (some r)) g1),hd.step hi S,hs,?_,he.step hi S,hp.step hi S⟩
  have h1:=hi.step S
  rw[List.map_set,hi.erase] at h1
  simp only[T.erase] at h1
  simp only[St.entries]
  cases hn:Nat.ble c.F0.length k with
  | false=>simpa[hn] using h1
  | true =>
   have hkn:=Nat.le_of_ble_eq_true hn
   have:=h1.iu fun k' q s hlt=>by simp[dead,show (k'==k)=false by simp;omega]
   simpa[hn] using this
 ·obtain⟨a2,YT,hone⟩:=zB (hi.holds gx (List.mem_of_getElem? hk2)) nu
  have S:=jo.aaX hi hf hk2 hne hb hone (g2:=.map true (.map (some r)) g1) (w':={ w with heap:=w.heap.setIfInBounds r (.map es' zA) }) rN rfl
   (fun b=>by have:=ho b;simp only[T.owned,List.count_append];omega) (fun b hb=>jg b fun e=>hb (e▸hmem)) (by simp) rfl rfl rfl (κ1:=[(k,[.i 0])]) l1 l2 l3
  refine⟨_,hd.step hi S,hs,?_,he.step hi S,hp.step hi S⟩
  have h1:=hi.step S
  rw[List.map_set,List.map_set,hi.erase] at h1
  simp only[T.erase] at h1
  simp only[St.entries]
  cases hn:Nat.ble c.F0.length k with
  | false =>
   have h2:=h1.iY (κ':=[(k,[.i 0])]++st.κ) fun k' q s hlt hd=>by
    rw[aM,aM]
    rw[aM] at hd
    simp only[Bool.or_eq_false_iff] at hd ⊢
    exact⟨⟨hd.1,by simp[dead,show (k'==k2)=false by simp;omega]⟩,hd.2⟩
   simpa[hn] using h2
  | true =>
   have hkn:=Nat.le_of_ble_eq_true hn
   have:=h1.iu fun k' q s hlt=>by simp[dead,show (k'==k)=false by simp;omega,show (k'==k2)=false by simp;omega]
   simpa[hn] using this
theorem Hi{es:Array MapEntry}{j:Nat}{en:MapEntry}(hj:es[j]? = some en)(f:MapEntry→MapEntry):(es.modify j f).toList=es.toList.set j (f en):=by
 apply List.ext_getElem?
 intro i
 rw[Array.getElem?_toList,Array.getElem?_modify,List.getElem?_set]
 by_cases hij:j=i
 ·subst hij
  obtain⟨hl,he'⟩:=Array.getElem?_eq_some_iff.1 hj
  simp[hl,he']
 ·simp[hij]
theorem KC{c:Cx}{τ:bg}(hτ:bg.Ok c.P τ){t:TypeId}{e:TypeId}{kd:KK}(hmp:(τ t).mp=some (e,kd)){w:World}{r:Nat}{es:Array MapEntry}{cl:Nat}(hr:w.heap[r]? = some (.map es cl)){g0 u:G}{key val:Value}
  (qC:T.aD es.toList g0) (hst:MapKept.Stamped es cl) (YW:fh kd g0.erase) (hk2:kd.is key) (Ck:u.cells=val.cells.toList) (Cl:gM u=j9 val) :
  ∃es' zA,(Instr.mapUpdate t (.map (some r)) key val).run c.P w=.ok () { w with heap:=w.heap.setIfInBounds r (.map es' zA) }∧T.aD es'.toList (ig key u g0)∧MapKept.Stamped es' zA:=by
 obtain⟨kt,uA,tJ⟩:=(hτ t).mp e kd hmp
 rcases tJ.find w hk2 es.toList (wY qC YW) with ⟨f1,f2⟩|⟨j,en,f1,f2,f3⟩
 ·refine⟨es.push ⟨key,val,cl⟩,cl+1,?_,by rw[Array.toList_push];exact(AR qC f2).2.2 u val cl Ck Cl,MapKept.stamped_push hst f2⟩
  simp[Instr.mapUpdate,run_underlying uA,MapKept.run_getObj_map hr,tJ.check _ _ hk2,f1,MapKept.run_setObj_map _ hr,Result.andThen]
 ·have hj:es[j]? = some en:=by simpa using f2
  refine⟨es.modify j (fun e'=>{ e' with key:=key,val:=val }),cl,?_,?_,MapKept.stamped_modify hst _ _ (fun _ _=>rfl) fun e' _ he'=>by rw[hj] at he';cases he';exact f3.symm⟩
  ·simp[Instr.mapUpdate,run_underlying uA,MapKept.run_getObj_map hr,tJ.check _ _ hk2,f1,hj,f3,tJ.stays _ hk2,MapKept.run_setObj_map _ hr,Result.andThen]
  ·obtain⟨_,_,_,_,_,_,_,_,hput⟩:=AS qC hst.2.2 f2 f3
   rw[Hi hj]
   exact hput u val Ck Cl
theorem aaY{c:Cx}{τ:bg}(hτ:bg.Ok c.P τ){st:St}{a:Act}{w:World}(h:Rel c st a w){t:TypeId}{m x y:Operand}{K:AV→St→Prop}(hv:Td τ c.F0.length st t m x y K) :
  ∃av st' w',K av st'∧(Instr.mapUpdate t (a.eval m) (a.eval x) (a.eval y)).run c.P w=.ok () w'∧gr c st' av undef a w':=by
 obtain⟨hd,hs,I,F,hi,he,hp⟩:=h
 unfold Td at hv
 split at hv
 case h_2=>exact hv.elim
 rename_i k key e kd hm hx hmp
 split at hv
 case h_2=>exact hv.elim
 rename_i s hs0
 obtain⟨YW,hk2,hv⟩:=hv
 obtain⟨r,g0,es,cl,hme,hf,rfl,H1,hr,qC,hst⟩:=D3 hi he hm hs0
 have AN:=AQ hx (he.ev x)
 have hrl:r<w.heap.size:=(Array.getElem?_eq_some_iff.1 hr).1
 have hmem:r∈(T.map true (.map (some r)) g0:G).owned:=by simp[T.owned,blk]
 have hrF:r∈own F:=fS hf hmem
 have hno:∀b∈g0.owned,b≠r:=fun b hb e=>by
  have h1:=aS hi.nodup r
  have h2:=mA hf r
  subst e
  simp only[T.owned,blk,List.count_append,List.count_singleton_self] at h2
  rw[aq] at hb
  omega
 have jg:∀(o:Obj) (b:Nat),b≠r→({ w with heap:=w.heap.setIfInBounds r o }:World).heap[b]? = w.heap[b]?:=fun o b hb=>by simp[Array.getElem?_setIfInBounds_ne (Ne.symm hb)]
 have Xx:∀o,T.Holds ({ w with heap:=w.heap.setIfInBounds r o }:World).heap I g0:=fun o=>H1.agree (fun b hb=>jg o b (hno b hb)) (fun b hb=>jg o b fun e=>hi.apart r hrF (e▸hb)) fun _ h=>h
 split at hv
 · -- a map ahp in
  rename_i k2 q hy
  obtain⟨rfl,hv⟩:=hv
  split at hv
  case h_2=>exact hv.elim
  rename_i s2 Dk
  obtain⟨hne,hb,hv⟩:=hv
  have uZ:=he.jO (τ:=τ) e y
  rw[hy] at uZ
  obtain⟨ow,r2,z,len,hh,hye⟩:=uZ
  injection hye with hye _
  unfold bM at hh
  cases qA:F[k2]? with
  | none=>rw[qA] at hh;simp at hh
  | some f2 =>
   rw[qA] at hh
   simp only[Option.bind_some,T.at_] at hh
   have vo:f2.erase=.map true () s2:=by
    have:=Dk
    rw[←hi.erase,List.getElem?_map,qA] at this
    simpa using this
   obtain⟨a0,g2,rfl,rN⟩:∃a0 g2,f2=.map true a0 g2∧g2.erase=s2:=by
    cases f2<;>simp only[T.erase] at vo<;>cases vo
    exact⟨_,_,rfl,rfl⟩
   simp only[cM,Option.some.injEq,Prod.mk.injEq] at hh
   obtain⟨_,rfl,_,_⟩:=hh
   have hH2:=hi.holds _ (List.mem_of_getElem? qA)
   have U':∀b∈(T.map true (.map (some r2)) g2:G).owned,b≠r:=fun b hb e=>by
    have h1:=aS hi.nodup r
    have h2:=mA hf r
    have h3:=kf qA hf hne b
    subst e
    simp only[T.owned,blk,List.count_append,List.count_singleton_self] at h2 h3
    rw[aq] at hb
    simp only[T.owned,blk,List.count_append] at hb
    omega
   obtain⟨es',zA,hrun,Hg,Hh⟩:=KC hτ hmp hr (u:=.map true (.map (some r2)) g2) (val:=a.eval y) qC hst YW hk2 (by rw[hye];rfl) (by rw[hye];rfl)
   have hu':T.Holds ({ w with heap:=w.heap.setIfInBounds r (.map es' zA) }:World).heap I (.map true (.map (some r2)) g2):=hH2.agree (fun b hb=>jg _ b (U' b hb)) (fun b hb=>jg _ b fun e=>hi.apart r hrF (e▸hb)) fun _ h=>h
   obtain⟨F',q1,q2,q3,q4,q5⟩:=Rel.entries hd hs hi he hp hf hr Hg Hh (more:=[(k2,[])]) (X:=st.X.set k2 (.aH ())) (.inr ⟨k2,_,rfl,rfl,qA,hne,hb,rfl,fun b=>w5 b qC⟩) (w6 hk2 hu' qC (Xx _))
   rw[wZ qC] at q3 q4 q5
   simp only[T.erase,rN] at q3 q4 q5
   exact⟨_,_,_,hv,by rw[hme,AN];exact hrun,q1,q2,I,F',q3,q4,q5,_,rfl⟩
 ·split at hv
  case h_2=>exact hv.elim
  rename_i d hfl
  obtain⟨u,Ck,Cl,hu3,hu4,hu5⟩:=Xu (he.jO (τ:=τ) e y) hfl
  obtain⟨es',zA,hrun,Hg,Hh⟩:=KC hτ hmp hr (u:=u) (val:=a.eval y) qC hst YW hk2 Cl hu5
  have hu':T.Holds ({ w with heap:=w.heap.setIfInBounds r (.map es' zA) }:World).heap I u:=hu3.agree (by rw[hu4];simp) (fun b hb=>jg _ b fun e=>hi.apart r hrF (e▸hb)) fun _ h=>h
  obtain⟨F',q1,q2,q3,q4,q5⟩:=Rel.entries hd hs hi he hp hf hr Hg Hh (more:=[]) (X:=st.X) (.inl ⟨rfl,rfl,fun b=>by have:=w5 (key:=key) (u:=u) b qC;rw[hu4] at this;simpa using this⟩) (w6 hk2 hu' qC (Xx _))
  rw[wZ qC,Ck] at q3 q4 q5
  exact⟨_,_,_,hv,by rw[hme,AN];exact hrun,q1,q2,I,F',q3,q4,q5,_,rfl⟩
theorem aaZ{c:Cx}{τ:bg}(hτ:bg.Ok c.P τ){st:St}{a:Act}{w:World}(h:Rel c st a w){t u ty:TypeId}{m x:Operand}{K:AV→St→Prop}(hv:Te τ c.F0.length st t m x K) :
  ∃av st' w',K av st'∧(Builtin.delete_ #[t,u] ty #[a.eval m,a.eval x]).run c.P w=.ok (.tuple #[]) w'∧gr c st' av (.tuple #[]) a w':=by
 obtain⟨hd,hs,I,F,hi,he,hp⟩:=h
 unfold Te at hv
 split at hv
 case h_2=>exact hv.elim
 rename_i k key e kd hm hx hmp
 split at hv
 case h_2=>exact hv.elim
 rename_i s hs0
 obtain⟨YW,hk2,hv⟩:=hv
 obtain⟨r,g0,es,cl,hme,hf,rfl,H1,hr,qC,hst⟩:=D3 hi he hm hs0
 have AN:=AQ hx (he.ev x)
 obtain⟨kt,uA,tJ⟩:=(hτ t).mp e kd hmp
 have hmem:r∈(T.map true (.map (some r)) g0:G).owned:=by simp[T.owned,blk]
 have hrF:r∈own F:=fS hf hmem
 have hno:∀b∈g0.owned,b≠r:=fun b hb e=>by
  have h1:=aS hi.nodup r
  have h2:=mA hf r
  subst e
  simp only[T.owned,blk,List.count_append,List.count_singleton_self] at h2
  rw[aq] at hb
  omega
 have jg:∀(o:Obj) (b:Nat),b≠r→({ w with heap:=w.heap.setIfInBounds r o }:World).heap[b]? = w.heap[b]?:=fun o b hb=>by simp[Array.getElem?_setIfInBounds_ne (Ne.symm hb)]
 have Xx:∀o,T.Holds ({ w with heap:=w.heap.setIfInBounds r o }:World).heap I g0:=fun o=>H1.agree (fun b hb=>jg o b (hno b hb)) (fun b hb=>jg o b fun e=>hi.apart r hrF (e▸hb)) fun _ h=>h
 obtain⟨es',hrun,Hg,Hh⟩:∃es',(Builtin.delete_ #[t,u] ty #[.map (some r),key]).run c.P w=.ok (.tuple #[]) { w with heap:=w.heap.setIfInBounds r (.map es' cl) }∧T.aD es'.toList (nO key g0)∧MapKept.Stamped es' cl:=by
  rcases tJ.find w hk2 es.toList (wY qC YW) with ⟨f1,f2⟩|⟨j,en,f1,f2,f3⟩
  ·refine⟨es,?_,by rw[(AR qC f2).2.1];exact qC,hst⟩
   simp[Builtin.delete_,run_underlying uA,MapKept.run_getObj_map hr,tJ.check _ _ hk2,f1,MapKept.run_setObj_map _ hr,Result.andThen]
  ·obtain⟨_,_,_,_,_,_,_,Q3,_⟩:=AS qC hst.2.2 f2 f3
   have hjl:j<es.toList.length:=(List.getElem?_eq_some_iff.1 f2).1
   have hjs:j<es.size:=by simpa using hjl
   have hsub:(es.eraseIdxIfInBounds j).toList=es.toList.eraseIdx j:=by
    unfold Array.eraseIdxIfInBounds
    rw[dif_pos hjs]
    simp
   refine⟨es.eraseIdxIfInBounds j,?_,by rw[hsub];exact Q3,MapKept.stamped_erase hst j⟩
   simp[Builtin.delete_,run_underlying uA,MapKept.run_getObj_map hr,tJ.check _ _ hk2,f1,MapKept.run_setObj_map _ hr,Result.andThen]
 obtain⟨F',q1,q2,q3,q4,q5⟩:=Rel.entries hd hs hi he hp hf hr Hg Hh (more:=[]) (X:=st.X) (.inl ⟨rfl,rfl,fun b=>G8 b qC⟩) (He qC (Xx _))
 rw[G7 qC] at q3 q4 q5
 exact⟨_,_,_,hv,by rw[hme,AN];exact hrun,q1,q2,I,F',q3,q4,q5,[],rfl,rfl⟩
theorem Ti{z:Nat}{s:G}(hs:s.nQ z):∀{k:Nat},s.len≤k→s.take k=s:=by
 induction s with
 | nil=>intro k _;cases k<;>rfl
 | cons a t _ bO =>
  intro k hk
  cases k with
  | zero=>simp[T.len] at hk
  | succ k=>simp only[T.take];rw[bO hs.2 (by simpa[T.len] using hk)]
 | _=>exact hs.elim
theorem Rel.AU{c:Cx}{st:St}{a:Act}{w:World}{I:Nat→Prop}{F:List G}(hd:oI c.w0.heap.size a.defers w)(hs:a.tmps.size=c.nt)(hi:Inv c st.X st.κ w I F)(he:bw st.env a w I F)(hp:dS st.pl w I F)
  {o:Obj} {g':G} (hg:T.Holds (w.alloc o).heap I g') (hc:∀b,b≠w.heap.size→g'.owned.count b=0) (hc1:g'.owned.count w.heap.size≤1) :
  F.length=st.X.length∧Inv c (st.X++[g'.erase]) st.κ (w.alloc o) I (F++[g'])∧bw st.env a (w.alloc o) I (F++[g'])∧dS st.pl (w.alloc o) I (F++[g']):=by
 have L:Laid w.heap I c.F0.length [] F F (.nil:G) [] ⟨.nil,st.X,[],[]⟩:=⟨hi.erase,rfl,rfl,trivial,hi.holds,fun b=>by simp[T.owned],eM.refl _ F,fun q av hm=>by cases hm⟩
 obtain⟨g1,g2,g3,g4,_⟩:=Rel.w9 (o:=o) (g':=g') (φ:=id) (d:=g'.erase) hd hs hi he hp L (fun k q s _=>by simp[dead]) hg (fun b hb=>by rw[hc b hb];omega) hc1
  (fun q v hq=>by simp[uc,cI] at hq;cases q with
   | nil=>simp[T.at_] at hq
   | cons st q=>cases st<;>(simp[T.at_,T.nth] at hq;try (cases q with|nil=>simp[T.at_] at hq|cons st' q'=>cases st'<;>simp[T.at_] at hq))) rfl
 refine⟨g1,g2,fun t=>?_,fun k q av hm=>g4 k q av ?_⟩
 ·have:=g3 t
  rw[AV.zC] at this
  exact this
 ·simp only[St.push,St.mT,List.filter_nil,List.map_nil,List.append_nil,dK]
  rw[List.mem_filter]
  exact⟨hm,by simp[dead,AV.ja]⟩
theorem aa0{c:Cx}{τ:bg}(hτ:bg.Ok c.P τ){st:St}{a:Act}{w:World}(h:Rel c st a w){t ty:TypeId}{x:Operand}{K:AV→St→Prop}(hv:Tf τ c.F0.length st t x K) :
  ∃av st' w',K av st'∧(Builtin.clear_ #[t] ty #[a.eval x]).run c.P w=.ok (.tuple #[]) w'∧gr c st' av (.tuple #[]) a w':=by
 obtain⟨hd,hs,I,F,hi,he,hp⟩:=h
 unfold Tf at hv
 split at hv
 case h_2=>exact hv.elim
 rename_i k lo n ex e z cL zv hx ht
 split at hv
 case h_2=>exact hv.elim
 rename_i z' s g hX hg
 obtain⟨rfl,hlen,hK⟩:=hv
 have oH:=he.ev x
 rw[hx] at oH
 obtain⟨ow,a0,z0,len,v,hh,vb,hsub⟩:=oH
 injection vb with vb _
 obtain⟨u1,inf,u2,u3,u4,u5,u6⟩:=(hτ t).sl _ _ _ _ ht
 obtain⟨z1,Xw,zz,z2,z3,z4⟩:=(hτ e).zero g hg
 rw[u2] at z2;cases z2
 rw[u3] at z3;cases z3
 have hgw:g.width=z':=by rw[←T.aI,←z4,Array.length_toList,u6]
 unfold bM at hh
 cases hf:F[k]? with
 | none=>rw[hf] at hh;simp at hh
 | some f =>
  rw[hf] at hh
  simp only[Option.bind_some,T.at_] at hh
  have vo:f.erase=.sl true () z' s:=by
   have:=hX
   rw[←hi.erase,List.getElem?_map,hf] at this
   simpa using this
  obtain⟨a1,s0,rfl,hs0⟩:∃a1 s0,f=.sl true a1 z' s0∧s0.erase=s:=by
   cases f<;>simp only[T.erase] at vo<;>cases vo
   exact⟨_,_,rfl,rfl⟩
  have hH:=hi.holds _ (List.mem_of_getElem? hf)
  simp only[cM,Option.some.injEq,Prod.mk.injEq] at hh
  obtain⟨_,rfl,rfl,rfl⟩:=hh
  subst hs0
  have hlen':lo+n=s0.len:=by rw[hlen,T.cX]
  obtain⟨H1,H2,_,H4⟩:=id hH
  obtain⟨A,cap,rfl,hs1,Dk,Yp,_,hs5⟩:=hsub
  have step:∀w':World,w'.heap.size=w.heap.size→w'.os=w.os→w'.tape=w.tape→w'.output=w.output →
    (∀b,b∉(T.sl true a1 z' s0:G).owned→w'.heap[b]? = w.heap[b]?)→T.Holds w'.heap I (.sl true a1 z' ((s0.take lo).app (oL (List.replicate n g)))) →
    (Builtin.clear_ #[t] ty #[a.eval x]).run c.P w=.ok (.tuple #[]) w' →
    ∃av st' w',K av st'∧(Builtin.clear_ #[t] ty #[a.eval x]).run c.P w=.ok (.tuple #[]) w'∧gr c st' av (.tuple #[]) a w':=fun w' q1 q2 q3 q4 q5 q6 q7=>by
   have uv:((s0.take lo).app (oL (List.replicate n g))).len=s0.len:=by rw[T.sS,T.sU,mB];omega
   have S:=jo.sL hi hf (g2:=.sl true a1 z' ((s0.take lo).app (oL (List.replicate n g)))) q6 rfl
    (fun b=>by
     have h1:=(T.xd s0 lo).count_le b
     simp only[T.owned,List.count_append]
     rw[T.qp (T.pG H2 lo),qm (eY z1 w.heap I).2]
     simp only[List.append_nil];omega)
    q5 q1 q2 q3 q4 (κ1:=[(k,[])])
    (fun q hq=>by
     cases q with
     | nil=>rfl
     | cons _ _=>rw[jf] at hq;simp[ah] at hq)
    (fun q hq=>by rw[jf] at hq;simp[ah] at hq)
    (fun q v _ hq=>by rw[jf] at hq;simp[ah] at hq)
   have S2:jo w w' I I F (F.set k (.sl true a1 z' ((s0.take lo).app (oL (List.replicate n g))))) [(k,[.i 0])] c.F0.length:={ S with
    keep:=fun j g' hg'=>by
     by_cases ej:j=k
     ·subst ej
      rw[hf] at hg';cases hg'
      refine⟨_,List.getElem?_set_self (List.getElem?_eq_some_iff.1 hf).1,fun _=>rfl,fun q hq=>?_,fun q hq=>?_,fun q v hj hq=>?_⟩
      ·rcases qo (q:=q) with (rfl|⟨s1,q',rfl,hs1⟩)|⟨i,q',rfl⟩
       ·rfl
       ·cases s1<;>first|exact absurd rfl (hs1 _)|simp[T.loc]
       ·cases q' with
        | nil=>simp only[T.loc,uv]
        | cons _ _=>rw[jf] at hq;simp[ah] at hq
      ·rcases qo (q:=q) with (rfl|⟨s1,q',rfl,hs1⟩)|⟨i,q',rfl⟩
       ·simp[T.at_,cM,uv]
       ·cases s1<;>first|exact absurd rfl (hs1 _)|simp[T.at_]
       ·rw[jf] at hq;simp[ah] at hq
      ·rcases qo (q:=q) with (rfl|⟨s1,q',rfl,hs1⟩)|⟨i,q',rfl⟩
       ·simp[T.at_] at hj
       ·cases s1<;>first|exact absurd rfl (hs1 _)|simp[T.at_] at hj
       ·rw[jf] at hq;simp[ah] at hq
     ·exact⟨g',by rw[List.getElem?_set_ne (Ne.symm ej)];exact hg',fun _=>rfl,fun _ _=>rfl,fun _ _=>rfl,fun _ _ h _=>h⟩ }
   refine⟨_,_,w',hK,q7,hd.step hi S2,hs,I,_,?_,he.step hi S2,hp.step hi S2,[],rfl,rfl⟩
   have h1:=hi.step S2
   rw[List.map_set,hi.erase] at h1
   simp only[T.erase,T.qq,rA,qn] at h1
   cases hb:Nat.ble c.F0.length k with
   | false=>exact h1
   | true =>
    have hkb:=Nat.le_of_ble_eq_true hb
    exact h1.iu fun k' q s hlt=>by simp[dead,show (k'==k)=false by simp;omega]
  by_cases hn0:n=0
  ·subst hn0
   have hsame:(s0.take lo).app (oL (List.replicate 0 g))=s0:=by
    rw[Ti H2 (by omega)]
    exact T.KD H2
   refine step w rfl rfl rfl rfl (fun _ _=>rfl) (by rw[hsame];exact hH) ?_
   rw[vb]
   cases A<;>simp[Builtin.clear_,run_underlying u1]
  ·split at hs5
   ·exact absurd hs5.2 (by omega)
   case h_3=>exact hs5.elim
   rename_i xa nx cx
   obtain⟨ya,rfl,hy1,hy2,hy3,hy4,hy5⟩:=hs5
   have hcap:0<cx:=by omega
   cases cx with
   | zero=>omega
   | succ cx =>
    obtain⟨g1,g2,g3,g3',g4,row,ee,fr,g6,gf,g7,g8⟩:=H4
    obtain rfl:=gf rfl
    have hyo:=hy5 (by omega)
    obtain⟨yb,yo,ys⟩:=ya
    simp only at hy1 hy2 hyo
    subst hy1
    subst hy2
    have hz0:(Builtin.zeroCells zv.cells n).toList=(oL (List.replicate n g)).cells:=by
     rw[ql,←z4]
     by_cases Xy:0<zv.cells.size
     ·exact qs n Xy
     ·have:zv.cells=#[]:=by
       apply Array.eq_empty_of_size_eq_zero;omega
      simp[Builtin.zeroCells,this]
    have hwz:(oL (List.replicate n g)).cells.length=n*z':=by rw[T.aI,T.nj (sR hgw n),mB]
    have hmul:lo*z'+n*z'=s0.len*z':=by rw[←Nat.add_mul,hlen']
    have ahr:s0.len*z'≤(cx+1)*z':=Nat.mul_le_mul_right _ (by omega)
    obtain⟨w',r1,r2,r3,r4,r5,r6,row',r7,r8,r9,r10⟩:=lX c.P (b:=xa.block) (o:=yo) (e:=ee) (oL (List.replicate n g)).cells 0 w row g6 (fun j hj=>by rw[hwz] at hj;omega)
     (fun v hv=>(nq (eY z1 w.heap I).1 n).one v hv)
    have hmem:xa.block∈(T.sl true (.slice (some xa) nx (cx+1)) z' s0:G).owned:=by simp[T.owned,blk]
    have YX:xa.block∈own F:=fS hf hmem
    refine step w' r2 r3 r4 r5 (fun b hb=>r6 b fun e=>hb (e▸hmem)) ?_ ?_
    ·have hzh:=(eY z1 w'.heap I).1
     refine⟨T.Holds.app (T.Holds.take (H1.agree (fun b hb=>r6 b fun e=>?_) (fun b hb=>r6 b fun e=>hi.apart _ YX (e▸hb)) fun _ h=>h) lo) (nq hzh n),T.vq (T.pG H2 lo) (sR hgw n),(by intro h;cases h),?_⟩
     ·have h1:=aS hi.nodup b
      have h2:=mA hf b
      subst e
      simp only[T.owned,blk,List.count_append,List.count_singleton_self] at h2
      rw[aq] at hb
      omega
     ·refine⟨g1,by rw[T.sS,T.sU,mB];omega,g3,g3',(by intro h;cases h),row',ee,(0,0),r7,fun _=>rfl,by rw[r8];exact g7,fun j v hv=>?_⟩
      rw[T.zD (T.pG H2 lo)] at hv
      have htw:(s0.take lo).cells.length=lo*z':=by rw[T.aI,T.nj (T.pG H2 lo),T.sU,Nat.min_eq_left (by omega)]
      by_cases hj:j<lo*z'
      ·rw[List.getElem?_append_left (by omega)] at hv
       rw[r10 _ (by left;omega)]
       exact g8 j v (T.xe H2 hv)
      ·rw[List.getElem?_append_right (by omega),htw] at hv
       have hj2:=(List.getElem?_eq_some_iff.1 hv).1
       rw[r9 _ (by omega) (by omega),←hv]
       congr 1;omega
    ·rw[vb]
     cases n with
     | zero=>exact absurd rfl hn0
     | succ n=>simp[Builtin.clear_,run_underlying u1,zeroValue,typeInfo,u2,u3,hz0,r1]
theorem Tj{c:Cx}{τ:bg}(hτ:bg.Ok c.P τ){st:St}{a:Act}{w:World}(h:Rel c st a w){t u ty:TypeId}{x y:Operand}{K:AV→St→Prop}(hv:Tg τ st t u x y K) :
  ∃av st' v w',K av st'∧(Builtin.append_ #[t,u] ty #[a.eval x,a.eval y]).run c.P w=.ok v w'∧gr c st' av v a w'∧Ext w w':=by
 obtain⟨hd,hs,I,F,hi,he,hp⟩:=h
 unfold Tg at hv
 split at hv
 case h_2=>exact hv.elim
 rename_i z0 k n e z cL zv ik hx hy ht hu
 split at hv
 case h_2=>exact hv.elim
 rename_i g hg
 obtain⟨h0,h1,h2,hK⟩:=hv
 obtain⟨n,rfl⟩:∃k:Nat,n=k:=⟨n.toNat,by omega⟩
 simp only[Int.toNat_natCast] at hK
 have hn0:0<n:=by omega
 have oH:=he.jO (τ:=τ) t x
 rw[hx] at oH
 simp only[Rl,List.cons.injEq,and_true] at oH
 have uZ:=he.ev y
 rw[hy] at uZ
 obtain⟨uZ,_⟩:=uZ
 injection uZ with uZ _
 obtain⟨u1,inf,u2,u3,u4,u5,u6⟩:=(hτ t).sl _ _ _ _ ht
 obtain⟨z1,Xw,zz,z2,z3,z4⟩:=(hτ e).zero g hg
 rw[u2] at z2;cases z2
 rw[u3] at z3;cases z3
 have hut:=(hτ u).int _ hu
 have hgw:g.width=z:=by rw[←T.aI,←z4,Array.length_toList,u6]
 have h5:(cL:Int)*(n:Int)≤140737488355328:=by rw[Int.mul_comm];exact h1
 have h6:n*cL≤140737488355328:=by
  have e1:((n*cL:Nat):Int)=(n:Int)*cL:=by push_cast;rfl
  omega
 have hi':Inv c st.X st.κ w.drew I F:=⟨hi.erase,hi.holds,hi.nodup,hi.apart,hi.lt,hi.ic,hi.os,hi.tape,hi.output,hi.size,hi.frame,hi.fresh,hi.ek,hi.gY,hi.base⟩
 let cap:=grownCap w n 0 e
 have hcap:n≤cap:=grownCap_ge w n 0 e
 have ahs:cap≤2 ^ 63-1:=grownCap_le_maxLen w n 0 e (by simp only[maxLen];omega)
 let row:Array Value:=Builtin.zeroCells zv.cells n++Builtin.zeroCells zv.cells (cap-n)
 have hrow:row.size=cap*z:=by
  simp only[row,Array.size_append,Builtin.zeroCells,Array.size_map,Array.size_range,u6,←Nat.add_mul]
  congr 1;omega
 have xg:(Builtin.zeroCells zv.cells n).toList=(oL (List.replicate n g)).cells:=by
  rw[ql,←z4]
  by_cases Xy:0<zv.cells.size
  ·exact qs n Xy
  ·have:zv.cells=#[]:=by
    apply Array.eq_empty_of_size_eq_zero;omega
   simp[Builtin.zeroCells,this]
 have hnew:(w.drew.alloc (.cells row e)).heap[w.heap.size]? = some (.cells row e (0,0)):=heap_alloc_new w.drew _
 have hown:(oL (List.replicate n g)).owned=[]:=qm (eY z1 w.heap I).2 n
 have hblk:∀b,(T.sl true (.slice (some ⟨w.heap.size,0,none⟩) n cap) z (oL (List.replicate n g)):G).owned.count b≤([w.heap.size]:List Nat).count b:=fun b=>by
  have h1:=T.jh ⟨w.heap.size,0,none⟩ n cap b
  simp only[T.owned,hown,List.append_nil] at h1 ⊢;exact h1
 obtain⟨cc,ZO⟩:∃cc,cap=cc+1:=⟨cap-1,by omega⟩
 obtain⟨g1,g2,g3,g4⟩:=Rel.AU (w:=w.drew) (o:=.cells row e) (g':=.sl true (.slice (some ⟨w.heap.size,0,none⟩) n cap) z (oL (List.replicate n g))) hd hs hi' he hp
  ⟨nq (eY z1 _ I).1 n,sR hgw n,(by intro h;cases h),by
   rw[ZO]
   refine⟨rfl,(mB g _).symm,by omega,by omega,(by intro h;cases h),row,e,_,hnew,fun _=>rfl,by rw[hrow,ZO];simp,fun j u hu=>?_⟩
   rw[←xg] at hu
   have hj:=(List.getElem?_eq_some_iff.1 hu).1
   rw[Array.length_toList] at hj
   simp only[Nat.zero_add,row]
   rw[Array.getElem?_append_left hj,←Array.getElem?_toList];exact hu⟩
  (fun b hb=>by have:=hblk b;simp[Ne.symm (show b≠w.heap.size from hb)] at this;omega) (by have:=hblk w.heap.size;simpa using this)
 refine⟨_,_,.slice (some ⟨w.heap.size,0,none⟩) n cap,w.drew.alloc (.cells row e),hK,?_,⟨hd.alloc _,hs,I,_,?_,g3,g4,true,.slice (some ⟨w.heap.size,0,none⟩) n cap,z,n,_,by simp[bM,←g1,T.at_,cM,mB],rfl,?_⟩,fun b hb=>heap_alloc (w:=w.drew) hb⟩
 ·have hw1:IntKind.i64.wrap (n:Int)=n:=IntWalk.i64_in _ (by omega)
  have hn:n≠0:=by omega
  have h63':¬(9223372036854775807<(n:Int)):=by omega
  have agn:¬(281474976710656<Builtin.nextslicecap n 0*inf.bytes):=by rw[nextslicecap_zero hn0,u5];omega
  have h7:¬(281474976710656<(n:Int)*(inf.bytes:Int)):=by rw[u5];omega
  have hneg:¬((n:Int)<0):=by omega
  simp only[oH,uZ]
  simp[Builtin.append_,run_underlying u1,run_underlying hut,sizeOf,typeInfo,zeroValue,u2,u3,asInt,asIntOf,hw1,hn,h63',agn,h7,hneg,Question.forced,run_firstCells_none,newRow]
  have hz:n*inf.size=0→Builtin.zeroCells zv.cells n=#[]:=fun h=>by
   apply Array.eq_empty_of_size_eq_zero
   simp only[Builtin.zeroCells,Array.size_map,Array.size_range,u6,←u4,h]
  split
  ·rename_i h
   simp only[row,hz h,Array.empty_append];rfl
  ·rfl
 ·simpa[T.erase,qn] using g2
 ·exact⟨_,cap,rfl,by omega,hcap,by omega,(fun h=>by cases h),⟨_,rfl,rfl,rfl,by omega,by simp,fun _=>by simp⟩⟩
theorem vJ{c:Cx}{τ:bg}(hτ:bg.Ok c.P τ){st:St}{a:Act}{w:World}(h:Rel c st a w){o:Oper}{K:AV→St→Prop}(hv:lW τ c.F0.length o.op st K) :
  ∃av st' v w' n,K av st'∧(execOp a.eval o).run c.P w=.ok n w'∧(n=.value v∨n=.skip∧v=undef)∧gr c st' av v a w'∧(ff o.op=true→Ext w w'):=by
 obtain⟨dst,op,ty,pos,after,guard⟩:=o
 obtain⟨hd,hs,I,F,hi,he,hp⟩:=id h
 simp only at hv
 unfold lW at hv
 split at hv
 · -- a look aiT a map
  obtain⟨av,v,hK,hr,hrun⟩:=look_ok hτ hi he hp hv
  exact⟨av,st,v,w,_,hK,by simp[execOp,hrun],.inl rfl,⟨hd,hs,I,F,hi,he,hp,hr⟩,fun _ _ _=>rfl⟩
 · -- a map
  obtain⟨rfl,hK⟩:=hv
  have hnew:(w.alloc (.map #[] 0)).heap[w.heap.size]? = some (.map #[] 0):=heap_alloc_new w _
  obtain⟨g1,g2,g3,g4⟩:=Rel.AU (o:=.map #[] 0) (g':=.map true (.map (some w.heap.size)) .nil) hd hs hi he hp
   ⟨trivial,(by intro h;cases h),(by intro h;cases h),#[],0,hnew,trivial,MapKept.stamped_empty 0⟩ (fun b hb=>by simp[T.owned,blk,List.count_cons,Ne.symm hb]) (by simp[T.owned,blk])
  exact⟨_,_,.map (some w.heap.size),w.alloc (.map #[] 0),_,hK,by simp[execOp,Instr.makeMap],.inl rfl,
   ⟨hd.alloc _,hs,I,_,g2,g3,g4,true,w.heap.size,0,0,by simp[bM,←g1,T.at_,cM],rfl⟩,fun _=>nv _ _⟩
 · -- what a map is given
  obtain⟨av,st',w',hK,hrun,hr⟩:=aaY hτ h hv
  exact⟨av,st',undef,w',_,hK,by simp[execOp,hrun],.inr ⟨rfl,rfl⟩,hr,fun h=>by cases h⟩
 · -- a slice made
  rename_i t x y
  split at hv
  case h_2=>exact hv.elim
  rename_i k1 n k2 m e z cL zv hx hy ht
  split at hv
  case h_2=>exact hv.elim
  rename_i g hg
  obtain⟨rfl,h0,h1,h2,h3,h4,hK⟩:=hv
  obtain⟨n,rfl⟩:∃k:Nat,n=k:=⟨n.toNat,by omega⟩
  simp only[Int.toNat_natCast] at hK
  have oH:=he.ev x
  rw[hx] at oH
  obtain⟨oH,_⟩:=oH
  injection oH with oH _
  have uZ:=he.ev y
  rw[hy] at uZ
  obtain⟨uZ,_⟩:=uZ
  injection uZ with uZ _
  obtain⟨u1,inf,u2,u3,u4,u5,u6⟩:=(hτ t).sl _ _ _ _ ht
  obtain⟨z1,Xw,zz,z2,z3,z4⟩:=(hτ e).zero g hg
  rw[u2] at z2;cases z2
  rw[u3] at z3;cases z3
  have hcs:((Array.range (n*z)).map fun i=>zv.cells[i % zv.cells.size]!).toList=(oL (List.replicate n g)).cells:=by
   rw[ql,←z4]
   have:=qs (zero:=zv.cells) n (by omega)
   simp only[u6] at this ⊢
   exact this
  have hsz:((Array.range (n*z)).map fun i=>zv.cells[i % zv.cells.size]!).size=n*z:=by simp
  have hnew:(w.alloc (.cells ((Array.range (n*z)).map fun i=>zv.cells[i % zv.cells.size]!) e)).heap[w.heap.size]? = some (.cells ((Array.range (n*z)).map fun i=>zv.cells[i % zv.cells.size]!) e (0,0)):=heap_alloc_new w _
  have hown:(oL (List.replicate n g)).owned=[]:=qm (eY z1 w.heap I).2 n
  have hblk:∀b,(T.sl true (.slice (some ⟨w.heap.size,0,none⟩) n n) z (oL (List.replicate n g)):G).owned.count b≤([w.heap.size]:List Nat).count b:=fun b=>by
   have h1:=T.jh ⟨w.heap.size,0,none⟩ n n b
   simp only[T.owned,hown,List.append_nil] at h1 ⊢;exact h1
  obtain⟨g1,g2,g3,g4⟩:=Rel.AU (o:=.cells ((Array.range (n*z)).map fun i=>zv.cells[i % zv.cells.size]!) e) (g':=.sl true (.slice (some ⟨w.heap.size,0,none⟩) n n) z (oL (List.replicate n g))) hd hs hi he hp
   ⟨nq (eY z1 _ I).1 n,sR h3 n,(by intro h;cases h),by
    rcases n with _|n
    ·exact⟨rfl,fun _=>rfl,rfl⟩
    ·exact⟨rfl,(mB g _).symm,Nat.le_refl _,by omega,(by intro h;cases h),_,e,_,hnew,fun _=>rfl,by simp[hsz],fun j u hu=>by rw[←hcs,Array.getElem?_toList] at hu;simpa using hu⟩⟩
   (fun b hb=>by have:=hblk b;simp[List.count_cons,Ne.symm hb] at this;omega) (by have:=hblk w.heap.size;simpa using this)
  refine⟨_,_,.slice (some ⟨w.heap.size,0,none⟩) n n,w.alloc (.cells ((Array.range (n*z)).map fun i=>zv.cells[i % zv.cells.size]!) e),_,hK,?_,.inl rfl,
   ⟨hd.alloc _,hs,I,_,?_,g3,g4,true,.slice (some ⟨w.heap.size,0,none⟩) n n,z,n,_,by simp[bM,←g1,T.at_,cM,mB],rfl,?_⟩,fun _=>nv _ _⟩
  ·have hw1:IntKind.i64.wrap (n:Int)=n:=IntWalk.i64_in _ (by omega)
   have h5:(cL:Int)*(n:Int)≤140737488355328:=by rw[Int.mul_comm];exact h1
   have h6:n*cL≤140737488355328:=by
    have e1:((n*cL:Nat):Int)=(n:Int)*cL:=by push_cast;rfl
    omega
   have h7:(inf.bytes:Int)*(n:Int)≤140737488355328:=by rw[u5];exact h5
   have Cf:¬(281474976710656<(inf.bytes:Int)*(n:Int)):=by omega
   have zU:¬(roomBytes<n*inf.bytes):=by rw[u5];simp[roomBytes];omega
   simp only[execOp,Instr.makeSlice,Sem.run_bind,run_underlying u1,Result.andThen_ok,oH,uZ,asInt,typeInfo,Sem.run_pure,asIntOf,hw1]
   simp[u2,Cf,askRoom,zU,sizeOf,typeInfo,u4]
   rw[if_neg (by omega)]
   by_cases h0z:n*z=0
   ·rw[if_pos h0z]
    have:((Array.range (n*z)).map fun _=>(default:Value))=(Array.range (n*z)).map fun i=>zv.cells[i % zv.cells.size]!:=by simp[h0z]
    rw[this]
    simp[newRow]
   ·rw[if_neg h0z]
    simp[zeroValue,typeInfo,u2,u3,newRow]
  ·simpa[T.erase,qn] using g2
  ·exact⟨_,n,rfl,by omega,Nat.le_refl _,by omega,fun _=>rfl,⟨_,rfl,rfl,rfl,by omega,by simp,fun _=>by simp⟩⟩
 · -- clear
  rename_i cc
  split at hv
  case h_4=>exact hv.elim
  rename_i x t dc hargs P3
  obtain⟨av,st',w',hK,hrun,hr⟩:=aa0 hτ h (ty:=ty) hv
  have h1:cc.args.map a.eval=#[a.eval x]:=by
   apply Array.ext'
   simp[hargs]
  have h2:cc.argTypes=#[t]:=by
   apply Array.ext'
   simp[P3]
  exact⟨av,st',_,w',_,hK,by simp[execOp,resolve,dc,h1,h2,invoke,builtin,hrun],.inl rfl,hr,fun h=>by rw[ff,dc] at h;cases h⟩
  rename_i x y t u dc hargs P3
  obtain⟨av,st',v,w',hK,hrun,hr,hex⟩:=Tj hτ h (ty:=ty) hv
  have h1:cc.args.map a.eval=#[a.eval x,a.eval y]:=by
   apply Array.ext'
   simp[hargs]
  have h2:cc.argTypes=#[t,u]:=by
   apply Array.ext'
   simp[P3]
  exact⟨av,st',v,w',_,hK,by simp[execOp,resolve,dc,h1,h2,invoke,builtin,hrun],.inl rfl,hr,fun _=>hex⟩
  rename_i x y t u dc hargs P3
  obtain⟨av,st',w',hK,hrun,hr⟩:=aaZ hτ h (ty:=ty) (u:=u) hv
  have h1:cc.args.map a.eval=#[a.eval x,a.eval y]:=by
   apply Array.ext'
   simp[hargs]
  have h2:cc.argTypes=#[t,u]:=by
   apply Array.ext'
   simp[P3]
  exact⟨av,st',_,w',_,hK,by simp[execOp,resolve,dc,h1,h2,invoke,builtin,hrun],.inl rfl,hr,fun h=>by rw[ff,dc] at h;cases h⟩
 ·exact hv.elim
end Go.Vc

namespace Go.Vc
set_option linter.all false
open T (cM blk)
def agG (c:Cx) (st:St) (me:AV) (vs:List Value) (a:Act) (w:World):Prop :=
 oI c.w0.heap.size a.defers w∧a.tmps.size=c.nt∧∃I F,Inv c st.X st.κ w I F∧bw st.env a w I F∧dS st.pl w I F∧Rl w.heap I F me true vs
def iX (P:Program) (f:FuncId):Prop:=∃fn,P.funcs[f]? = some fn∧fn.body.isSome=true∧(fn.name == "runtime.NumGoroutine")=false
def AV.still:AV→Bool
 | .ptr _ _=>false
 | .sub _ _ _ _ _=>false
 | .mp _ _=>false
 | .cons a t=>a.still&&t.still
 | .agg s=>s.still
 | .cT s=>s.still
 | .fn _ s=>s.still
 | _=>true
def bx (c:Cx) (f:FuncId) (me:AV) (st:St) (K:AV→St→Prop):Prop :=
 ∀a w vs,agG c st me vs a w→iX c.P f∧Calls c.P f vs.toArray w fun e w'=>∃v av st',e=.returned v∧K av st'∧gr c st' av v a w'∧(me.still=true→Ext w w')
theorem Ei{c:Cx}{f f':FuncId}{me DP:AV}{st st':St}{K:AV→St→Prop}(h0:f=f')(h1:me=DP)(h2:st=st'):bx c f me st K=bx c f' DP st' K:=by
 subst h0;subst h1;subst h2;rfl
def jv (P:Program) (t:TypeId) (op:BinOp) (s u:AV) (K:AV→Prop):Prop :=
 ∃b,(P.eqGuardType P.depth t=false∧∀h I F xs ys w,Rl h I F s false xs→Rl h I F u false ys→(Op.equal t (.agg xs.toArray) (.agg ys.toArray)).run P w=.ok b w)∧jC op b K
theorem MV{P:Program}{t:TypeId}{op:BinOp}{s s' u u':AV}{K:AV→Prop}(h1:s=s')(h2:u=u'):jv P t op s u K=jv P t op s' u' K:=by
 subst h1;subst h2;rfl
def AV.app:AV→AV→AV
 | .cons a t,u=>.cons a (t.app u)
 | _,u=>u
def jF (τ:bg) (st:St):List Operand→List TypeId→AV
 | x::xs,t::ts=>.cons (st.jO τ t x) (jF τ st xs ts)
 | x::xs,[]=>.cons (st.ev x) (jF τ st xs [])
 | [],_=>.nil
def TD (ts:Array TypeId):Bool:=match ts.toList with
 | [t,u]=>!Nat.beq t u
 | _=>false
def cF (c:Cx) (τ:bg) (o:Oper) (st:St) (K:AV→St→Prop):Prop :=
 match o.op with
 | .load t x=>mI τ (.load t x) st fun av=>K av st
 | .store t p x=>fI τ c.F0.length (.store t p x) st K
 | .alloc t=>fI τ c.F0.length (.alloc t) st K
 | .box t x=>fI τ c.F0.length (.box t x) st K
 | .buildSlice t n parts=>fI τ c.F0.length (.buildSlice t n parts) st K
 | .build t parts=>oc τ st t parts.toList fun av=>K av st
 | .slice t x lo hi mx=>(mx≠none→hi≠none)∧oa τ st t (st.jO τ t x) (lo.map st.ev) (hi.map st.ev) (mx.map st.ev) fun av=>K av st
 | .call cc=>match cc.callee with
  | .builtin .append=>match TD cc.argTypes with
   | true=>lW τ c.F0.length (.call cc) st K
   | false=>fI τ c.F0.length (.call cc) st K
  | .builtin .clear=>lW τ c.F0.length (.call cc) st K
  | .builtin .delete=>lW τ c.F0.length (.call cc) st K
  | .value f=>match st.ev f with
   | .fn g s=>s.cI=true∧bx c g ((jF τ st cc.args.toList cc.argTypes.toList).app s) st K
   | _=>False
  | _=>jI τ (.call cc) o.type st fun av=>K av st
 | .binOp op t x y ty=>match st.ev x,st.ev y with
  | .agg s,.agg u=>(op=.eql∨op=.neq)∧jv c.P t op s u fun av=>K av st
  | _,_=>jI τ (.binOp op t x y ty) o.type st fun av=>K av st
 | .lookup t x ix ok=>lW τ c.F0.length (.lookup t x ix ok) st K
 | .makeMap t r=>lW τ c.F0.length (.makeMap t r) st K
 | .mapUpdate t m x y=>lW τ c.F0.length (.mapUpdate t m x y) st K
 | .makeSlice t x y=>lW τ c.F0.length (.makeSlice t x y) st K
 | op=>jI τ op o.type st fun av=>K av st
def sY (as:AV):AV→Bool
 | .fn _ s=>(as.app s).still
 | _=>false
def bG (τ:bg) (st:St):Op→Bool
 | .call cc=>match cc.callee with
  | .value f=>sY (jF τ st cc.args.toList cc.argTypes.toList) (st.ev f)
  | _=>false
 | _=>false
theorem zJ{τ:bg}{nb:Nat}{o:Op}{st:St}{K:AV→St→Prop}(h:fI τ nb o st K):bG τ st o=false:=by
 unfold fI at h
 split at h<;>first|rfl|exact h.elim|skip
 rename_i cc
 split at h
 ·rename_i dc _ _;simp[bG,dc]
 ·exact h.elim
theorem zK{τ:bg}{nb:Nat}{o:Op}{st:St}{K:AV→St→Prop}(h:lW τ nb o st K):bG τ st o=false:=by
 unfold lW at h
 split at h<;>first|rfl|exact h.elim|skip
 rename_i cc
 split at h
 ·rename_i dc _ _;simp[bG,dc]
 ·rename_i dc _ _;simp[bG,dc]
 ·rename_i dc _ _;simp[bG,dc]
 ·exact h.elim
theorem zL{τ:bg}{st:St}{a:Act}{w:World}{I:Nat→Prop}{F:List G}(he:bw st.env a w I F):∀(xs:List Operand) (ts:List TypeId),
  Rl w.heap I F (jF τ st xs ts) true (xs.map a.eval)
 | [],_=>rfl
 | x::xs,[]=>⟨_,_,rfl,he.ev x,zL he xs []⟩
 | x::xs,t::ts=>⟨_,_,rfl,he.jO t x,zL he xs ts⟩
theorem lN{τ:bg}{st:St}{a:Act}{w:World}{I:Nat→Prop}{F:List G}(he:bw st.env a w I F){u:AV}{m:List Value}(H2:Rl w.heap I F u true m):∀(xs:List Operand) (ts:List TypeId),
  Rl w.heap I F ((jF τ st xs ts).app u) true (xs.map a.eval++m)
 | [],_=>H2
 | x::xs,[]=>⟨_,_,rfl,he.ev x,lN he H2 xs []⟩
 | x::xs,t::ts=>⟨_,_,rfl,he.jO t x,lN he H2 xs ts⟩
theorem kK{P:Program}{f:FuncId}(h:iX P f)(args:Array Value)(w:World):(callFunc f args).run P w=.ok (.enter f args) w:=by
 obtain⟨fn,h1,h2,h3⟩:=h
 have h4:fn.body≠none:=by rw[Option.isSome_iff_exists] at h2;obtain⟨b,h2⟩:=h2;rw[h2];simp
 have h5:fn.name ≠ "runtime.NumGoroutine":=by simpa using h3
 simp[callFunc,h1,h4,h5]
theorem zn{c:Cx}{τ:bg}(hτ:bg.Ok c.P τ){st:St}{a:Act}{w:World}(h:Rel c st a w){o:Oper}{K:AV→St→Prop}(hv:cF c τ o st K){next:Act→World→Prop}{Q:Exit→Act→World→Prop}
  (hn:∀av v st' w',K av st'→gr c st' av v a w'→(ff o.op=true∨bG τ st o.op=true→Ext w w')→next (a.put o.dst v) w'):o.wp c.P a w next Q:=by
 obtain⟨hd,hs,I,F,hi,he,hp⟩:=id h
 have value:∀av v st',K av st'→gr c st' av v a w→(execOp a.eval o).run c.P w=.ok (.value v) w→o.wp c.P a w next Q:=fun av v st' h1 h2 h3=>by
  unfold Oper.wp;rw[h3];exact hn av v st' w h1 h2 fun _ _ _=>rfl
 have TE:fI τ c.F0.length o.op st K→o.wp c.P a w next Q:=fun hv=>by
  obtain⟨av,st',v,w',n,h1,h2,h3,h4,h5⟩:=TC hτ h hv
  unfold Oper.wp;rw[h2]
  have TF:ff o.op=true∨bG τ st o.op=true→Ext w w':=fun h=>h.elim h5 fun h=>by rw[zJ hv] at h;cases h
  rcases h3 with rfl|⟨rfl,rfl⟩
  ·exact hn av v st' w' h1 h4 TF
  ·exact hn av undef st' w' h1 h4 TF
 have rE:lW τ c.F0.length o.op st K→o.wp c.P a w next Q:=fun hv=>by
  obtain⟨av,st',v,w',n,h1,h2,h3,h4,h5⟩:=vJ hτ h hv
  unfold Oper.wp;rw[h2]
  have TF:ff o.op=true∨bG τ st o.op=true→Ext w w':=fun h=>h.elim h5 fun h=>by rw[zK hv] at h;cases h
  rcases h3 with rfl|⟨rfl,rfl⟩
  ·exact hn av v st' w' h1 h4 TF
  ·exact hn av undef st' w' h1 h4 TF
 have pure:∀{K':AV→Prop},(∀av,K' av→K av st)→jI τ o.op o.type st K'→o.wp c.P a w next Q:=fun hk hv=>by
  obtain⟨av,v,h1,h2,h3⟩:=A1 hτ hi he hv
  exact value av v st (hk _ h1) ⟨hd,hs,I,F,hi,he,hp,h2⟩ (h3 w)
 unfold cF at hv
 split at hv
 ·rename_i t x ho
  obtain⟨av,v,h1,h2,h3⟩:=sJ hτ hi he hp (o:=o) (K:=fun av=>K av st) (by rw[ho];exact hv)
  exact value av v st h1 ⟨hd,hs,I,F,hi,he,hp,h2⟩ (h3 w fun _ _=>rfl)
 ·rename_i ho;exact TE (by rw[ho];exact hv)
 ·rename_i ho;exact TE (by rw[ho];exact hv)
 ·rename_i ho;exact TE (by rw[ho];exact hv)
 ·rename_i ho;exact TE (by rw[ho];exact hv)
 ·rename_i t parts ho
  obtain⟨av,v,h1,h2,h3⟩:=xz hτ he hv
  refine value av v st h1 ⟨hd,hs,I,F,hi,he,hp,h2⟩ ?_
  obtain⟨dst,op,ty,pos,after,guard⟩:=o
  simp only at ho;subst ho
  simp[execOp,h3]
 ·rename_i t x lo hi' mx ho
  obtain⟨hm,hv⟩:=hv
  have opt:∀(x:Option Operand),MR w.heap I F (x.map st.ev) (x.map a.eval):=fun x=>by
   cases x with
   | none=>trivial
   | some x=>exact he.ev x
  obtain⟨av,v,h1,h2,h3⟩:=xu hτ hi (he.jO (τ:=τ) t x) (opt lo) (opt hi') (opt mx) (by simpa using hm) hv
  refine value av v st h1 ⟨hd,hs,I,F,hi,he,hp,h2⟩ ?_
  obtain⟨dst,op,ty,pos,after,guard⟩:=o
  simp only at ho;subst ho
  simp[execOp,h3]
 ·rename_i cc ho
  split at hv
  ·split at hv
   ·exact rE (by rw[ho];exact hv)
   ·exact TE (by rw[ho];exact hv)
  ·exact rE (by rw[ho];exact hv)
  ·exact rE (by rw[ho];exact hv)
  ·rename_i f dc
   split at hv
   case h_2=>exact hv.elim
   rename_i g s hf
   obtain⟨hsq,hv⟩:=hv
   have Qb:=he.ev f
   rw[hf] at Qb
   obtain⟨l,h1,h2⟩:=Qb
   have hargs:=lN (τ:=τ) he h2 cc.args.toList cc.argTypes.toList
   obtain⟨hb,wR⟩:=hv a w _ ⟨hd,hs,I,F,hi,he,hp,hargs⟩
   injection h1 with h1 _
   obtain⟨dst,op,ty,pos,after,guard⟩:=o
   simp only at ho;subst ho
   have hrun:(execOp a.eval ⟨dst,.call cc,ty,pos,after,guard⟩).run c.P w=.ok (.enter g (cc.args.toList.map a.eval++l).toArray) w:=by
    have RG:cc.args.map a.eval++l.toArray=(cc.args.toList.map a.eval++l).toArray:=by apply Array.ext';simp
    simp[execOp,resolve,dc,h1,Deferred.ofValue,invoke,kK hb,RG]
   unfold Oper.wp;rw[hrun]
   refine Calls.mono wR fun e w' he'=>?_
   obtain⟨v,av,st',rfl,k1,k2,k3⟩:=he'
   refine hn av v st' w' k1 k2 fun h=>?_
   rcases h with h|h
   ·simp[ff,dc] at h
   ·exact k3 (by simpa[bG,dc,hf,sY] using h)
  ·exact pure (K':=fun av=>K av st) (fun _ h=>h) (by rw[ho];exact hv)
 ·rename_i op t x y ty ho
  split at hv
  ·rename_i s u hx hy
   obtain⟨hop,b,⟨h1,h2⟩,h3⟩:=hv
   have oH:=he.ev x
   have uZ:=he.ev y
   rw[hx] at oH
   rw[hy] at uZ
   obtain⟨xs,e1,r1⟩:=oH
   obtain⟨ys,e2,r2⟩:=uZ
   injection e1 with e1 _
   injection e2 with e2 _
   have hr:=h2 w.heap I F xs ys w r1 r2
   obtain⟨dst,op',ty',pos,after,guard⟩:=o
   simp only at ho;subst ho
   rcases hop with rfl|rfl
   ·refine value _ (.bool b) st h3 ⟨hd,hs,I,F,hi,he,hp,rfl,rfl⟩ ?_
    simp[execOp,eqGuard,h1,binOp,e1,e2,hr]
   ·refine value _ (.bool !b) st h3 ⟨hd,hs,I,F,hi,he,hp,rfl,rfl⟩ ?_
    simp[execOp,eqGuard,h1,binOp,e1,e2,hr]
  ·exact pure (K':=fun av=>K av st) (fun _ h=>h) (by rw[ho];exact hv)
 ·rename_i ho;exact rE (by rw[ho];exact hv)
 ·rename_i ho;exact rE (by rw[ho];exact hv)
 ·rename_i ho;exact rE (by rw[ho];exact hv)
 ·rename_i ho;exact rE (by rw[ho];exact hv)
 ·exact pure (K':=fun av=>K av st) (fun _ h=>h) hv
def oC:List (Nat×Tmp)→Nat→Option Tmp
 | [],_=>none
 | (g,t)::l,i=>if g=i then some t else oC l i
def oJ (all:List Oper) (gs:List (Nat×Tmp)):Bool:=gs.all fun (g,t)=>(all[g]?).bind (·.dst)==some t
def guardOf (gs:List (Nat×Tmp)) (st:St):Option (Nat×Bool)→Option Bool
 | none=>some true
 | some (g,want)=>match oC gs g with
  | some t=>match look st.env t with
   | .val (.bool b)=>some (b==want)
   | .cT _=>some false
   | _=>none
  | none=>none
def eO (gs:List (Nat×Tmp)) (i:Nat) (dst:Option Tmp) (av:AV) (st:St) (K:St→Prop):Prop :=
 match oC gs i,av with
 | some _,.val (.bool b)=>(b=true→K (st.put dst (.val (.bool true))))∧(b=false→K (st.put dst (.val (.bool false))))
 | _,av=>K (st.put dst av)
def eL (c:Cx) (τ:bg) (gs:List (Nat×Tmp)):List Oper→Nat→St→(St→Prop)→Prop
 | [],_,st,K=>K st
 | o::r,i,st,K=>match guardOf gs st o.guard with
  | some true=>cF c τ o st fun av st'=>eO gs i o.dst av st' fun st=>eL c τ gs r (i+1) st K
  | some false=>eL c τ gs r (i+1) (st.put o.dst (.cT .nil)) K
  | none=>False
theorem Ej{all:List Oper}{gs:List (Nat×Tmp)}(h:oJ all gs=true){g:Nat}{t:Tmp}(hg:oC gs g=some t):(all[g]?).bind (·.dst)=some t:=by
 induction gs with
 | nil=>cases hg
 | cons e l ih =>
  obtain⟨g',t'⟩:=e
  simp only[oJ,List.all_cons,Bool.and_eq_true,beq_iff_eq] at h
  simp only[oC] at hg
  split at hg
  ·rename_i he;subst he;cases hg;exact h.1
  ·exact ih h.2 hg
theorem cV{all:List Oper}{gs:List (Nat×Tmp)}(nh:oJ all gs=true){st:St}{a:Act}{w:World}{c:Cx}(h:Rel c st a w){o:Oper}{b:Bool}(hg:guardOf gs st o.guard=some b) :
  Region.wanted o (yielded all.toArray a.tmps)=b:=by
 obtain⟨hd,hs,I,F,hi,he,hp⟩:=h
 unfold Region.wanted
 cases hog:o.guard with
 | none=>rw[hog] at hg;simpa[guardOf] using hg
 | some gw =>
  obtain⟨g,want⟩:=gw
  rw[hog] at hg
  simp only[guardOf] at hg
  cases ht:oC gs g with
  | none=>rw[ht] at hg;cases hg
  | some t =>
   rw[ht] at hg
   simp only at hg
   have hv:=he t
   split at hg
   ·rename_i b' hl
    rw[hl] at hv
    simp only[Option.some.injEq] at hg
    subst hg
    obtain⟨hv,_⟩:=hv
    have hy:yielded all.toArray a.tmps g=some b':=by
     unfold yielded
     have h1:(all.toArray[g]?).bind (·.dst)=some t:=by simpa using Ej nh ht
     rw[h1]
     simp only[Option.bind_some]
     have h2:a.tmps[t]? = some (.bool b'):=by
      have h3:a.tmps[t]?.getD undef=.bool b':=by simpa using hv
      cases h4:a.tmps[t]? with
      | none=>rw[h4] at h3;simp[undef] at h3
      | some u=>rw[h4] at h3;simp at h3;rw[h3]
     rw[h2]
    simp only[hy]
    cases b'<;>cases want<;>rfl
   ·rename_i s hl
    rw[hl] at hv
    simp only[Option.some.injEq] at hg
    subst hg
    obtain⟨l,hv,_⟩:=hv
    injection hv with hv _
    have hy:yielded all.toArray a.tmps g=none:=by
     unfold yielded
     have h1:(all.toArray[g]?).bind (·.dst)=some t:=by simpa using Ej nh ht
     rw[h1]
     simp only[Option.bind_some]
     cases h4:a.tmps[t]? with
     | none=>rfl
     | some u =>
      have h5:u=.tuple l.toArray:=by simpa[h4] using hv
      subst h5
      rfl
    simp only[hy]
    rfl
   ·cases hg
theorem fM{c:Cx}{gs:List (Nat×Tmp)}{i:Nat}{dst:Option Tmp}{av:AV}{st:St}{K:St→Prop}{v:Value}{a:Act}{w:World}(hv:eO gs i dst av st K)(h:gr c st av v a w)
  (hd:∀t,dst=some t→t<c.nt):∃st',K st'∧Rel c st' (a.put dst v) w:=by
 unfold eO at hv
 split at hv
 ·rename_i b _
  cases b with
  | true=>exact⟨_,hv.1 rfl,h.put hd⟩
  | false=>exact⟨_,hv.2 rfl,h.put hd⟩
 ·exact⟨_,hv,h.put hd⟩
def dY (nt:Nat) (l:List Oper):Bool:=l.all fun o=>match o.dst with
 | some t=>Nat.blt t nt
 | none=>true
theorem Ht{c:Cx}{τ:bg}(hτ:bg.Ok c.P τ){all:List Oper}{gs:List (Nat×Tmp)}(nh:oJ all gs=true){Q:Exit→Act→World→Prop}{K:St→Prop}(hQ:∀st a w,K st→Rel c st a w→Q .normal a w) :
  ∀(l:List Oper) (i:Nat) (st:St) (a:Act) (w:World),dY c.nt l=true→Rel c st a w→eL c τ gs l i st K→wpList c.P all.toArray Q l a w
 | [],_,st,a,w,_,h,hv=>hQ st a w hv h
 | o::r,i,st,a,w,hl,h,hv=>by
  simp only[dY,List.all_cons,Bool.and_eq_true] at hl
  have iN:∀t,o.dst=some t→t<c.nt:=fun t ht=>by
   have:=hl.1;rw[ht] at this;exact Nat.le_of_ble_eq_true this
  unfold eL at hv
  unfold wpList
  split at hv
  ·rename_i hg
   rw[if_pos (cV nh h hg)]
   refine .inl (zn hτ h hv fun av v st' w' h1 h2 _=>?_)
   obtain⟨i7,h3,h4⟩:=fM h1 h2 iN
   exact Ht hτ nh hQ r (i+1) i7 _ w' hl.2 h4 h3
  ·rename_i hg
   rw[cV nh h hg]
   simp only[Bool.false_eq_true,if_false]
   obtain⟨hd,hs,I,F,hi,he,hp⟩:=h
   exact Ht hτ nh hQ r (i+1) _ _ w hl.2 (gr.put (av:=.cT .nil) (v:=undef) ⟨hd,hs,I,F,hi,he,hp,[],rfl,rfl⟩ iN) hv
  ·exact hv.elim
end Go.Vc
