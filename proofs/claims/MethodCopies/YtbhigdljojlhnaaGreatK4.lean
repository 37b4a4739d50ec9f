import Derived.Test.YtbhigdljojlhnaaGreatK3
namespace Go.Vc
set_option linter.all false
open T (cM blk)
theorem LY{P:Program}{nt:Nat}{W:World}{I:Nat→Prop}{F:List G}{X:List D}{κ:List (Nat×Path)}{W':World}{I':Nat→Prop}{F':List G}(i:Inv ⟨P,nt,W,I,F⟩ X κ W' I' F'){k:Nat}{q:Path}{u:Bool×Value×Nat×Nat}
  (hd:dead κ k q true=false) (h:bM F k q=some u):bM F' k q=some u:=by
 unfold bM at *
 cases hk:F[k]? with
 | none=>rw[hk] at h;cases h
 | some g =>
  obtain⟨g',h1,_,_,h3,_⟩:=i.base k g hk
  rw[hk] at h
  rw[h1]
  simp only[Option.bind_some] at h ⊢
  rw[h3 q hd];exact h
def St.settle (nb:Nat) (st:St) (k:Nat) (q:Path) (av:AV):St where
 env:=st.env.kill ((av.lay nb st.X).κ++[(k,q)])
 X:=(av.lay nb st.X).X.set k (((av.lay nb st.X).tree k).set q (av.lay nb st.X).d)
 κ:=(bif Nat.ble nb k then [] else [(k,q)])++st.κ
 pl:=dK ((av.lay nb st.X).κ++[(k,q)]) st.pl
theorem Rz{nb:Nat}{av:AV}{X:List D}(h:av.dx=true):T.gM (av.lay nb X).d=false:=by
 cases av with
 | ptr k q =>
  unfold AV.lay
  split
  ·cases hn:Nat.ble nb k<;>rfl
  ·rfl
 | sub k q lo n ex =>
  unfold AV.lay
  split
  ·rfl
  ·split
   ·cases hn:Nat.ble nb k<;>rfl
   ·rfl
 | mp k q =>
  unfold AV.lay
  split
  ·cases hn:Nat.ble nb k<;>rfl
  ·rfl
 | val v=>rfl
 | bE z=>rfl
 | cA z s ex=>rfl
 | fP d=>rfl
 | fn f s=>rfl
 | _=>exact absurd h (by simp[AV.dx])
theorem DD(g:G):T.gM g.erase=T.gM g:=by cases g<;>rfl
theorem Rel.settle{c:Cx}{st:St}{a:Act}{w:World}(h:Rel c st a w){k:Nat}{q:Path}{av:AV}(hm:(k,q,av)∈st.pl)(hq:q≠[]∧av.dx=true)(hok:((av.lay c.F0.length st.X).tree k).dU q=true)
  (hne:T.noEntry true ((av.lay c.F0.length st.X).tree k) q=true):Rel c (st.settle c.F0.length k q av) a w:=by
 obtain⟨hd,hs,I,F,hi,he,hp⟩:=h
 have hag:=Rz (nb:=c.F0.length) (X:=st.X) hq.2
 replace hq:=hq.1
 obtain⟨f,v,hf,hj,hv⟩:=hp k q av hm
 obtain⟨F1,x,L,hsq⟩:=wE (nb:=c.F0.length) (F0:=F) (κ0:=[]) hi.holds (eM.refl _ F) hv
 rw[hi.erase] at L
 have hb:=fun k q s=>@mY c.F0.length av st.X k q s
 unfold St.settle
 generalize av.lay c.F0.length st.X=r at *
 obtain⟨g,hg,GQ⟩:=L.keep.2 k f hf
 have fD:r.tree k=g.erase:=by
  unfold Tk.tree
  rw[←L.erase,List.getD_eq_getElem?_getD,List.getElem?_map,hg];rfl
 rw[fD,T.gL] at hok
 rw[fD,T.eW] at hne
 have GQ:g=f:=by
  rcases GQ with h|⟨⟨a',rfl⟩,_⟩
  ·exact h
  ·cases q with
   | nil=>exact absurd rfl hq
   | cons st' q=>cases st'<;>simp[T.dU] at hok
 subst GQ
 have hc:x.cells=(g.at_ q).cells:=by rw[L.cells,hj];rfl
 have hw:=T.iZ hc
 have hgm:=List.mem_of_getElem? hg
 have dB:T.Holds w.heap I (g.set q x):=T.Holds.sG L.lK (fun _ _=>rfl) (fun _ h=>h) (L.holds g hgm) hok hne hc (fun _=>by rw[hj,←DD,L.i4,hag];rfl) (fun _ _=>rfl)
 have jm:∀b',(own (F1.set k (g.set q x))).count b'≤(own F).count b':=fun b'=>by
  have h1:=cQ hg (g.set q x) b'
  have h2:=L.count b'
  have h3:=(T.eF hok b').1
  have h4:=(T.eF hok b').2 x
  omega
 have hmem:∀b'∈own (F1.set k (g.set q x)),b'∈own F:=fun b' hb'=>by
  have:=jm b'
  rw[aq] at *;omega
 obtain⟨k1,k2,k3⟩:=wF (k:=k) hw hok
 have S:jo w w I I F (F1.set k (g.set q x)) (r.κ++[(k,q)]) c.F0.length:={
  holds:=fun g' hg'=>by
   rcases List.mem_or_eq_of_mem_set hg' with h'|h'
   ·exact L.holds _ h'
   ·subst h';exact dB
  nodup:=bu fun b'=>Nat.le_trans (jm b') (aS hi.nodup b')
  apart:=fun b' hb'=>hi.apart b' (hmem b' hb')
  mine:=fun b' hb'=>.inl (hmem b' hb')
  lt:=fun b' hb'=>hi.lt b' (hmem b' hb')
  ic:=hi.ic
  heap:=fun _ _ _=>rfl
  size:=Nat.le_refl _
  os:=rfl
  tape:=rfl
  output:=rfl
  ek:=fun _ h=>h
  gY:=fun _ h=>.inl h
  keep:=fun j f hj'=>by
   obtain⟨f1,h1,h2⟩:=L.keep.2 j f hj'
   by_cases e:k=j
   ·subst e
    rw[hg] at h1
    cases h1
    rw[hf] at hj'
    cases hj'
    refine⟨g.set q x,List.getElem?_set_self (List.getElem?_eq_some_iff.1 hg).1,fun _=>T.dy hok hc,fun q' hd'=>k1 q' ?_,fun q' hd'=>k2 q' ?_,fun q' v' Wt hd'=>k3 q' v' Wt ?_⟩ <;>
     (rw[aM,Bool.or_eq_false_iff] at hd';exact hd'.2)
   ·refine⟨f1,by rw[List.getElem?_set_ne e];exact h1,?_⟩
    rcases h2 with rfl|⟨⟨a',rfl⟩,h3,h4⟩
    ·exact⟨fun _=>rfl,fun _ _=>rfl,fun _ _=>rfl,fun _ _ h _=>h⟩
    ·refine⟨fun h=>by omega,fun q' KV=>?_,fun q' KV=>?_,fun q' v' _ KV=>?_⟩
     ·rw[aM,Bool.or_eq_false_iff] at KV
      cases q' with
      | nil=>simp[T.loc]
      | cons st' q'=>rw[iD L.keep.1 (by simp),h3] at KV;cases KV.1
     ·rw[aM,Bool.or_eq_false_iff,eG L.keep.1,h3] at KV;cases KV.1
     ·rw[aM,Bool.or_eq_false_iff,eG L.keep.1,h3] at KV;cases KV.1 }
 refine⟨hd,hs,I,F1.set k (g.set q x),?_,he.step hi S,hp.step hi S⟩
 have h1:=hi.step S
 rw[List.append_assoc] at h1
 have h2:=h1.iu hb
 rw[List.map_set,L.erase,T.mZ,L.i4,←fD] at h2
 cases hn:Nat.ble c.F0.length k with
 | false=>simpa[hn] using h2
 | true =>
  have:=h2.iu fun j p s hj=>by
   have:=Nat.le_of_ble_eq_true hn
   have:(j==k)=false:=by simp;omega
   simp[dead,this]
  simpa[hn] using this
theorem VS.settle{c:Cx}{x:Code}{l:List Code}{K:Exit→St→Prop}{st:St}(k:Nat)(q:Path)(av:AV)(hm:(k,q,av)∈st.pl)(hq:q≠[]∧av.dx=true)(hok:((av.lay c.F0.length st.X).tree k).dU q=true)
  (hne:T.noEntry true ((av.lay c.F0.length st.X).tree k) q=true) (h:VS c (x::l) K (st.settle c.F0.length k q av)):VS c (x::l) K st :=
 VS.ghost (fun _ _ hr=>hr.settle hm hq hok hne) h
end Go.Vc

namespace Go.Vc
set_option linter.all false
open T (cM blk)
def j6 (c:Cx) (τ:bg) (rs:List ResultVar) (R:AV→List D→List (Nat×Path)→Prop) (e:Exit) (st:St):Prop :=
 ∃st',(∀a w,Rel c st a w→Rel c st' a w)∧ak c.F0.length τ rs R e st'
section
variable {c:Cx} {τ:bg} {rs:List ResultVar} {R:AV→List D→List (Nat×Path)→Prop} {e:Exit} {st:St}
theorem j6.of(h:ak c.F0.length τ rs R e st):j6 c τ rs R e st:=⟨st,fun _ _ h=>h,h⟩
theorem j6.settle(k:Nat)(q:Path)(av:AV)(hm:(k,q,av)∈st.pl)(hq:q≠[]∧av.dx=true)(hok:((av.lay c.F0.length st.X).tree k).dU q=true)(hne:T.noEntry true ((av.lay c.F0.length st.X).tree k) q=true)
  (h:j6 c τ rs R e (st.settle c.F0.length k q av)):j6 c τ rs R e st :=
 let ⟨st',h1,h2⟩:=h
 ⟨st',fun a w hr=>h1 a w (hr.settle hm hq hok hne),h2⟩
end
theorem ai.aai{P:Program}{τ:bg}(hτ:bg.Ok P τ){f:FuncId}{fn:Func}{body:Code}{Y:List D}{args:AV}{R:AV→List D→List (Nat×Path)→Prop}
  (hf:P.funcs[f]? = some fn) (hb:fn.body=some body) (hname:(fn.name == "runtime.NumGoroutine")=false) {nt:Nat} (hnt:fn.ntmps=nt) {rs:List ResultVar} (wq:fn.results.toList=rs)
  (hl:args.gT=true) (hlen:args.len≤nt) {st:St} (hst:⟨fG 0 args,Y,[],[]⟩=st)
  (h:∀w0 I0 F0,F0.length=Y.length→VS ⟨P,nt,w0,I0,F0⟩ [body] (j6 ⟨P,nt,w0,I0,F0⟩ τ rs R) st):ai P f Y args R :=
 ai.Kr hτ hf hb hname hnt wq hl hlen fun w0 I0 F0 hF=>by
  subst hst
  refine VC.mono' (K:=eN (VS ⟨P,nt,w0,I0,F0⟩ [] (j6 ⟨P,nt,w0,I0,F0⟩ τ rs R)) (j6 ⟨P,nt,w0,I0,F0⟩ τ rs R)) (by with_unfolding_all exact h w0 I0 F0 hF) fun e st' a w hk hr=>?_
  have key:j6 ⟨P,nt,w0,I0,F0⟩ τ rs R e st'→∃i7,an τ rs R e i7∧Rel ⟨P,nt,w0,I0,F0⟩ i7 a w:=fun ⟨st1,hg,ts,cw,κ',h1,h2,h3⟩ =>
   have ⟨g1,g2,I,F,hi,he,hp⟩:=(hg a w hr).pick ts (cw:=cw) h1
   ⟨_,h3,g1,g2,I,F,hi.iY (κ':=κ') (fun _ _ _ _ hd=>iE (by simpa[St.pick] using h2) hd),he,hp⟩
  cases e with
  | normal=>exact key (by with_unfolding_all exact hk)
  | ret=>exact key hk
  | _=>exact key hk
attribute [irreducible] j6
end Go.Vc
