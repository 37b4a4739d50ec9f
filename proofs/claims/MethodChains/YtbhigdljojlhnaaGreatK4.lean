/- The rule of a loop over a function with one parameter. -/
import Derived.Test.YtbhigdljojlhnaaGreatK3
namespace Go.Vc
set_option linter.all false
open T (hdr blk)
def St.settle (nb:Nat) (st:St) (k:Nat) (q:Path) (av:AV):St where
 env:=st.env.kill ((av.lay nb st.X).κ ++ [(k,q)])
 X:=(av.lay nb st.X).X.set k (((av.lay nb st.X).tree k).set q (av.lay nb st.X).d)
 κ:=(bif Nat.ble nb k then [] else [(k,q)]) ++ st.κ
 pl:=plKill ((av.lay nb st.X).κ ++ [(k,q)]) st.pl
theorem lay_aggy {nb:Nat} {av:AV} {X:List D} (h:av.isOne = true):T.aggy (av.lay nb X).d = false:=by
 cases av with
 | ptr k q =>
  unfold AV.lay
  split
  ·cases hn:Nat.ble nb k <;> rfl
  ·rfl
 | sub k q lo n ex =>
  unfold AV.lay
  split
  ·rfl
  ·split
   ·cases hn:Nat.ble nb k <;> rfl
   ·rfl
 | mp k q =>
  unfold AV.lay
  split
  ·cases hn:Nat.ble nb k <;> rfl
  ·rfl
 | val v=>rfl
 | nils z=>rfl
 | imm z s ex=>rfl
 | iptr d=>rfl
 | fn f s=>rfl
 | _=>exact absurd h (by simp [AV.isOne])
theorem aggy_erase' (g:G):T.aggy g.erase = T.aggy g:=by cases g <;> rfl
theorem Rel.settle {c:Cx} {st:St} {a:Act} {w:World} (h:Rel c st a w) {k:Nat} {q:Path} {av:AV} (hm:(k,q,av)∈st.pl) (hq:q≠[]∧av.isOne = true) (hok:((av.lay c.F0.length st.X).tree k).okp q = true)
  (hne:T.noEntry true ((av.lay c.F0.length st.X).tree k) q = true):Rel c (st.settle c.F0.length k q av) a w:=by
 obtain ⟨hd,hs,I,F,hi,he,hp⟩:=h
 have hag:=lay_aggy (nb:=c.F0.length) (X:=st.X) hq.2
 replace hq:=hq.1
 obtain ⟨f,v,hf,hj,hv⟩:=hp k q av hm
 obtain ⟨F1,x,L,hsq⟩:=lay_ok (nb:=c.F0.length) (F0:=F) (κ0:=[]) hi.holds (KeepR.refl _ F) hv
 rw [hi.erase] at L
 have hb:=fun k q s=>@lay_bases c.F0.length av st.X k q s
 unfold St.settle
 generalize av.lay c.F0.length st.X = r at *
 obtain ⟨g,hg,hgf⟩:=L.keep.2 k f hf
 have htree:r.tree k = g.erase:=by
  unfold Tk.tree
  rw [←L.erase,List.getD_eq_getElem?_getD,List.getElem?_map,hg];rfl
 rw [htree,T.okp_erase] at hok
 rw [htree,T.noEntry_erase] at hne
 have hgf:g = f:=by
  rcases hgf with h | ⟨⟨a',rfl⟩,_⟩
  ·exact h
  ·cases q with
   | nil=>exact absurd rfl hq
   | cons st' q=>cases st' <;> simp [T.okp] at hok
 subst hgf
 have hc:x.cells = (g.at_ q).cells:=by rw [L.cells,hj];rfl
 have hw:=T.width_of_cells hc
 have hgm:=List.mem_of_getElem? hg
 have hset:T.Holds w.heap I (g.set q x):=T.Holds.set_same L.xholds (fun _ _=>rfl) (fun _ h=>h) (L.holds g hgm) hok hne hc (fun _=>by rw [hj,←aggy_erase',L.xerase,hag];rfl) (fun _ _=>rfl)
 have hcnt:∀ b',(own (F1.set k (g.set q x))).count b'≤(own F).count b':=fun b'=>by
  have h1:=own_set hg (g.set q x) b'
  have h2:=L.count b'
  have h3:=(T.count_rest hok b').1
  have h4:=(T.count_rest hok b').2 x
  omega
 have hmem:∀ b'∈own (F1.set k (g.set q x)),b'∈own F:=fun b' hb'=>by
  have:=hcnt b'
  rw [mem_of_count] at *;omega
 obtain ⟨k1,k2,k3⟩:=keep_any (k:=k) hw hok
 have S:Stp w w I I F (F1.set k (g.set q x)) (r.κ ++ [(k,q)]) c.F0.length:={
  holds:=fun g' hg'=>by
   rcases List.mem_or_eq_of_mem_set hg' with h' | h'
   ·exact L.holds _ h'
   ·subst h';exact hset
  nodup:=nodup_of_count fun b'=>Nat.le_trans (hcnt b') (count_le_one hi.nodup b')
  apart:=fun b' hb'=>hi.apart b' (hmem b' hb')
  mine:=fun b' hb'=>.inl (hmem b' hb')
  lt:=fun b' hb'=>hi.lt b' (hmem b' hb')
  ilt:=hi.ilt
  heap:=fun _ _ _=>rfl
  size:=Nat.le_refl _
  os:=rfl
  tape:=rfl
  output:=rfl
  imono:=fun _ h=>h
  inew:=fun _ h=>.inl h
  keep:=fun j f hj'=>by
   obtain ⟨f1,h1,h2⟩:=L.keep.2 j f hj'
   by_cases e:k = j
   ·subst e
    rw [hg] at h1
    cases h1
    rw [hf] at hj'
    cases hj'
    refine ⟨g.set q x,List.getElem?_set_self (List.getElem?_eq_some_iff.1 hg).1,fun _=>T.cells_set_same hok hc,fun q' hd'=>k1 q' ?_,fun q' hd'=>k2 q' ?_,fun q' v' hv' hd'=>k3 q' v' hv' ?_⟩ <;>
     (rw [dead_append,Bool.or_eq_false_iff] at hd';exact hd'.2)
   ·refine ⟨f1,by rw [List.getElem?_set_ne e];exact h1,?_⟩
    rcases h2 with rfl | ⟨⟨a',rfl⟩,h3,h4⟩
    ·exact ⟨fun _=>rfl,fun _ _=>rfl,fun _ _=>rfl,fun _ _ h _=>h⟩
    ·refine ⟨fun h=>by omega,fun q' hq'=>?_,fun q' hq'=>?_,fun q' v' _ hq'=>?_⟩
     ·rw [dead_append,Bool.or_eq_false_iff] at hq'
      cases q' with
      | nil=>simp [T.loc]
      | cons st' q'=>rw [dead_roots' L.keep.1 (by simp),h3] at hq';cases hq'.1
     ·rw [dead_append,Bool.or_eq_false_iff,dead_roots L.keep.1,h3] at hq';cases hq'.1
     ·rw [dead_append,Bool.or_eq_false_iff,dead_roots L.keep.1,h3] at hq';cases hq'.1 }
 refine ⟨hd,hs,I,F1.set k (g.set q x),?_,he.step hi S,hp.step hi S⟩
 have h1:=hi.step S
 rw [List.append_assoc] at h1
 have h2:=h1.unkill hb
 rw [List.map_set,L.erase,T.erase_set,L.xerase,←htree] at h2
 cases hn:Nat.ble c.F0.length k with
 | false=>simpa [hn] using h2
 | true =>
  have:=h2.unkill fun j p s hj=>by
   have:=Nat.le_of_ble_eq_true hn
   have:(j == k) = false:=by simp;omega
   simp [dead,this]
  simpa [hn] using this
theorem VS.settle {c:Cx} {x:Code} {l:List Code} {K:Exit→St→Prop} {st:St} (k:Nat) (q:Path) (av:AV) (hm:(k,q,av)∈st.pl) (hq:q≠[]∧av.isOne = true) (hok:((av.lay c.F0.length st.X).tree k).okp q = true)
  (hne:T.noEntry true ((av.lay c.F0.length st.X).tree k) q = true) (h:VS c (x :: l) K (st.settle c.F0.length k q av)):VS c (x :: l) K st :=
 VS.ghost (fun _ _ hr=>hr.settle hm hq hok hne) h
end Go.Vc

/- A body may end with steps that are no steps of the machine: what left its place goes back. -/
namespace Go.Vc
set_option linter.all false
open T (hdr blk)
def endS (c:Cx) (τ:Tab) (rs:List ResultVar) (R:AV→List D→List (Nat×Path)→Prop) (e:Exit) (st:St):Prop :=
 ∃ st',(∀ a w,Rel c st a w→Rel c st' a w)∧endK c.F0.length τ rs R e st'
section
variable {c:Cx} {τ:Tab} {rs:List ResultVar} {R:AV→List D→List (Nat×Path)→Prop} {e:Exit} {st:St}
theorem endS.of (h:endK c.F0.length τ rs R e st):endS c τ rs R e st:=⟨st,fun _ _ h=>h,h⟩
theorem endS.settle (k:Nat) (q:Path) (av:AV) (hm:(k,q,av)∈st.pl) (hq:q≠[]∧av.isOne = true) (hok:((av.lay c.F0.length st.X).tree k).okp q = true) (hne:T.noEntry true ((av.lay c.F0.length st.X).tree k) q = true)
  (h:endS c τ rs R e (st.settle c.F0.length k q av)):endS c τ rs R e st :=
 let ⟨st',h1,h2⟩:=h
 ⟨st',fun a w hr=>h1 a w (hr.settle hm hq hok hne),h2⟩
end
theorem Meets.of_vsS {P:Program} {τ:Tab} (hτ:Tab.Ok P τ) {f:FuncId} {fn:Func} {body:Code} {Y:List D} {args:AV} {R:AV→List D→List (Nat×Path)→Prop}
  (hf:P.funcs[f]? = some fn) (hb:fn.body = some body) (hname:(fn.name == "runtime.NumGoroutine") = false) {nt:Nat} (hnt:fn.ntmps = nt) {rs:List ResultVar} (hrs:fn.results.toList = rs)
  (hl:args.isList = true) (hlen:args.len≤nt) {st:St} (hst:⟨envOf 0 args,Y,[],[]⟩ = st)
  (h:∀ w0 I0 F0,F0.length = Y.length→VS ⟨P,nt,w0,I0,F0⟩ [body] (endS ⟨P,nt,w0,I0,F0⟩ τ rs R) st):Meets P f Y args R :=
 Meets.of_vc hτ hf hb hname hnt hrs hl hlen fun w0 I0 F0 hF=>by
  subst hst
  refine VC.mono' (K:=thenK (VS ⟨P,nt,w0,I0,F0⟩ [] (endS ⟨P,nt,w0,I0,F0⟩ τ rs R)) (endS ⟨P,nt,w0,I0,F0⟩ τ rs R)) (by with_unfolding_all exact h w0 I0 F0 hF) fun e st' a w hk hr=>?_
  have key:endS ⟨P,nt,w0,I0,F0⟩ τ rs R e st'→∃ st'',retK τ rs R e st''∧Rel ⟨P,nt,w0,I0,F0⟩ st'' a w:=fun ⟨st1,hg,ts,sel,κ',h1,h2,h3⟩ =>
   have ⟨g1,g2,I,F,hi,he,hp⟩:=(hg a w hr).pick ts (sel:=sel) h1
   ⟨_,h3,g1,g2,I,F,hi.rekill (κ':=κ') (fun _ _ _ _ hd=>dead_covers (by simpa [St.pick] using h2) hd),he,hp⟩
  cases e with
  | normal=>exact key (by with_unfolding_all exact hk)
  | ret=>exact key hk
  | _=>exact key hk
attribute [irreducible] endS
end Go.Vc
