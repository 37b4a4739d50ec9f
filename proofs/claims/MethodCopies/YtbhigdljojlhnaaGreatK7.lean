import Derived.Test.YtbhigdljojlhnaaGreatK6
import Derived.Test.YtbhigdljojlhnaaGreatK3
import Derived.Test.YtbhigdljojlhnaaGreatK5
import Derived.Laws.StructEq
import Derived.ChangeMaps5
namespace Go.Proofs.YtbhigdljojlhnaaGreat
set_option linter.all false
open Go.Vc Go.Proofs
theorem cZ{α:Type}(P:α→Prop){p:Prop}[Decidable p]{a b:α}(h1:P a)(h2:P b):P (if p then a else b):=by split<;>assumption
structure bT where
 op:Int
 a:Int
 b:Int
 c:Int
 d:Int
 n:Int
 m:Int
 name:ByteArray
abbrev fA:ByteArray:=⟨#[97]⟩
abbrev fB:ByteArray:=⟨#[98]⟩
abbrev fC:ByteArray:=⟨#[99]⟩
abbrev fF:ByteArray:=⟨#[102,111,111,61]⟩
theorem Gz(x:Int):0≤IntKind.u64.wrap x:=by simp only[IntKind.wrap,IntKind.bits,IntKind.signed];simp;omega
def nM (x:Int) (n:Nat):Nat:=((IntKind.u64.wrap x).tmod n).toNat
theorem Aq(x:Int){n:Nat}(h:0<n):(IntKind.u64.wrap x).tmod n=(nM x n:Int)∧nM x n<n:=by
 have h1:0≤(IntKind.u64.wrap x).tmod n:=Int.tmod_nonneg _ (Gz x)
 have h2:(IntKind.u64.wrap x).tmod n<n:=Int.tmod_lt_of_pos _ (by omega)
 unfold nM
 omega
def Aw (n:Int):Nat:=nM n 5
def nameOf (n:Int) (s:ByteArray):ByteArray:=if Aw n=0 then fA else if Aw n=1 then fB else if Aw n=2 then fC else if Aw n=3 then fF else s
def bT.nm (d:bT):ByteArray:=nameOf d.n d.name
def bT.old (d:bT):ByteArray:=nameOf d.m d.name
def iB (s:Mt) (L:List Th):Mt:={ s with L:=L }
@[simp] theorem ae6(s:Mt)(L:List Th):(iB s L).L=L:=rfl
noncomputable def jV (s:Mt) (d:bT):Mt :=
 if d.op=0 then (bt s d.a d.nm d.c d.d).1
 else if d.op=1 then (cC s d.a d.b d.nm d.c).1
 else if d.op=2 then (cq s d.a d.nm).1
 else if d.op=3 then (bf s d.a d.nm).1
 else if d.op=4 then (aliasOf s d.a d.nm d.old).1
 else if d.op=5 then (eD s d.a d.nm d.c).1
 else if d.op=6 then (cD s d.a).1
 else if d.op=7 then iB s (bW s.L d.a).1
 else if d.op=8 then iB s (bN s.L).1
 else if d.op=9 then iB s (dg s.L d.a d.b).1
 else if d.op=10 then iB s (dh s.L d.a d.b).1
 else if d.op=11 then iB s (fu s.L d.a).1
 else s
def s0:Mt:=⟨L0,[],[]⟩
theorem Db:aR s0:=⟨yT,by decide,by decide,(fun _ _ h=>by cases h),by decide⟩
noncomputable def jW (l:List bT):Mt:=l.foldl jV s0
theorem Gy(l:List bT)(d:bT):jW (l++[d])=jV (jW l) d:=by unfold jW;rw[List.foldl_append];rfl
theorem aR.Lr{s:Mt}(h:aR s){L:List Th}(hl:OK L)(hp:0<L.length):aR (iB s L):=⟨hl,hp,h.nd,h.ns,h.nf⟩
theorem aR.fr{s:Mt}(h:aR s)(t:Int):aR { s with fz:=cz s.fz t true }:=⟨h.ok,h.pos,h.nd,h.ns,ir h.nf _ _⟩
theorem qV{s:Mt}{t:Int}{n:ByteArray}{act:List Int}(h:(aJ s t n act).2=true):iO s ((aJ s t n act).1.th,(aJ s t n act).1.md) n=some (aJ s t n act).1.e∧(aJ s t n act).1.e.body≠-1:=by
 have h':aY s (placesOf s t act) n=((aJ s t n act).1,true):=by rw[←h];rfl
 obtain⟨i,hi,h1,h2,h3,_⟩:=jU h'
 exact⟨h2,h3⟩
def EB (s:Mt):Prop:=∀k n e,iO s k n=some e→-1≤e.body
def Rc (s s':Mt) (n:ByteArray):Prop:=s'.aT=s.aT∨(∃k e,s'.aT=(dH s k n e).aT∧(EB s→-1≤e.body))∨∃k,s'.aT=(iV s k n).aT
theorem sr{s s':Mt}(h:s'.aT=s.aT)(k:Key)(n:ByteArray):iO s' k n=iO s k n:=by unfold iO;rw[h]
theorem GA(s:Mt)(t:Int)(n:ByteArray)(b v:Int):Rc s (bt s t n b v).1 n:=by
 unfold bt
 split
 ·rename_i h
  refine .inr (.inl ⟨_,_,rfl,fun _=>?_⟩)
  have hf:(dw b&&fZ v)=true:=by
   cases hb:(dw b&&fZ v) with
   | true=>rfl
   | false=>rw[hb] at h;simp[bK,cB] at h
  simp only[dw,Bool.and_eq_true,decide_eq_true_eq] at hf
  show -1≤b
  omega
 ·exact .inl rfl
theorem GB(s:Mt)(m t:Int)(n:ByteArray)(b:Int):Rc s (cC s m t n b).1 n:=by
 unfold cC
 split
 ·rename_i h
  refine .inr (.inl ⟨_,_,rfl,fun _=>?_⟩)
  have hf:(iM s m&&dw b)=true:=by
   cases hb:(iM s m&&dw b) with
   | true=>rfl
   | false=>rw[hb] at h;simp[cB] at h
  simp only[dw,Bool.and_eq_true,decide_eq_true_eq] at hf
  show -1≤b
  omega
 ·exact .inl rfl
theorem Lz(s:Mt)(t:Int)(n:ByteArray):Rc s (cq s t n).1 n:=by
 unfold cq
 split
 ·exact .inl rfl
 ·split
  ·exact .inl rfl
  ·exact .inr (.inl ⟨_,_,rfl,fun _=>Int.le_refl _⟩)
theorem GC(s:Mt)(t:Int)(n:ByteArray):Rc s (bf s t n).1 n:=by
 unfold bf
 split
 ·exact .inl rfl
 ·split
  ·exact .inl rfl
  ·exact .inr (.inr ⟨_,rfl⟩)
theorem LC(s:Mt)(t:Int)(n old:ByteArray):Rc s (aliasOf s t n old).1 n:=by
 unfold aliasOf
 split
 ·exact .inl rfl
 ·split
  ·exact .inl rfl
  ·rename_i h
   exact .inr (.inl ⟨_,_,rfl,fun hE=>hE _ _ _ (qV (by simpa using h)).1⟩)
theorem GD{s:Mt}{t:Int}{n:ByteArray}(hf:(aJ s t n []).2=true)(hE:EB s):-1≤(iW s t n).body:=by
 unfold iW
 split
 ·rename_i own h
  split
  ·exact hE _ _ _ h
  ·exact hE _ _ _ (qV hf).1
 ·exact hE _ _ _ (qV hf).1
theorem Re(s:Mt)(t:Int)(n:ByteArray)(v:Int):Rc s (eD s t n v).1 n:=by
 unfold eD
 split
 ·exact .inl rfl
 ·split
  ·exact .inl rfl
  ·rename_i h
   exact .inr (.inl ⟨_,_,rfl,fun hE=>GD (by simpa using h) hE⟩)
theorem GF(s:Mt)(t:Int)(n:ByteArray):Rc s (cD s t).1 n:=by
 unfold cD
 split
 ·exact .inl rfl
 ·exact .inl rfl
theorem Al(s:Mt)(d:bT):Rc s (jV s d) d.nm:=by
 unfold jV
 let P:=fun x=>Rc s x d.nm
 refine cZ P (GA ..) (cZ P (GB ..) (cZ P (Lz ..) (cZ P (GC ..) (cZ P (LC ..) (cZ P (Re ..) (cZ P (GF ..) (cZ P ?_ (cZ P ?_ (cZ P ?_ (cZ P ?_ (cZ P ?_ ?_)))))))))))
 all_goals exact .inl rfl
theorem Rc.all{s s':Mt}{n:ByteArray}(h:Rc s s' n)(hs:aR s)(P:ByteArray→En→Prop)(hP:∀k m e,iO s k m=some e→P m e)(hn:∀e,(EB s→-1≤e.body)→P n e):∀k m e,iO s' k m=some e→P m e:=by
 intro k m e he
 rcases h with h|⟨k',e',h,hb⟩|⟨k',h⟩
 ·rw[sr h] at he;exact hP k m e he
 ·rw[sr h,qb] at he
  split at he
  ·rename_i hk
   cases he
   rw[hk.2];exact hn _ hb
  ·exact hP k m e he
 ·rw[sr h,su hs] at he
  split at he
  ·cases he
  ·exact hP k m e he
theorem Z7{s:Mt}(hs:aR s)(d:bT)(h:EB s):EB (jV s d):=(Al s d).all hs (fun _ e=>-1≤e.body) h fun e he=>he h
theorem nN{s:Mt}(h:aR s)(t:Int)(n:ByteArray)(b v:Int):aR (bt s t n b v).1:=by
 unfold bt
 split
 ·exact h.put _ _ _
 ·exact h
theorem GG{s:Mt}(h:aR s)(m t:Int)(n:ByteArray)(b:Int):aR (cC s m t n b).1:=by
 unfold cC
 split
 ·exact h.put _ _ _
 ·exact h
theorem LD{s:Mt}(h:aR s)(t:Int)(n:ByteArray):aR (cq s t n).1:=by
 unfold cq
 split
 ·exact h
 ·split
  ·exact h
  ·exact h.put _ _ _
theorem wj{s:Mt}(h:aR s)(t:Int)(n:ByteArray):aR (bf s t n).1:=by
 unfold bf
 split
 ·exact h
 ·split
  ·exact h
  ·exact h.del _ _
theorem LF{s:Mt}(h:aR s)(t:Int)(n old:ByteArray):aR (aliasOf s t n old).1:=by
 unfold aliasOf
 split
 ·exact h
 ·split
  ·exact h
  ·exact h.put _ _ _
theorem Rf{s:Mt}(h:aR s)(t:Int)(n:ByteArray)(v:Int):aR (eD s t n v).1:=by
 unfold eD
 split
 ·exact h
 ·split
  ·exact h
  ·exact h.put _ _ _
theorem GH{s:Mt}(h:aR s)(t:Int):aR (cD s t).1:=by
 unfold cD
 split
 ·exact h
 ·exact h.fr t
theorem tP{s:Mt}(h:aR s)(d:bT):aR (jV s d):=by
 have hl:∀(o a b:Int),aR (iB s (KX s.L ⟨o,a,b⟩).1):=fun o a b=>h.Lr (Kc h.ok h.pos ⟨o,a,b⟩).1 (Kc h.ok h.pos ⟨o,a,b⟩).2.1
 unfold jV
 exact cZ aR (nN h ..) (cZ aR (GG h ..) (cZ aR (LD h ..) (cZ aR (wj h ..) (cZ aR (LF h ..) (cZ aR (Rf h ..) (cZ aR (GH h ..)
  (cZ aR (hl 0 d.a 0) (cZ aR (hl 1 0 0) (cZ aR (hl 2 d.a d.b) (cZ aR (hl 3 d.a d.b) (cZ aR (hl 5 d.a 0) h)))))))))))
theorem zf(l:List bT):aR (jW l)∧EB (jW l)∧∀k n e,iO (jW l) k n=some e→∃d∈l,n=d.nm:=by
 suffices hh:∀(l:List bT) (s:Mt) (P:ByteArray→Prop),aR s→EB s→(∀k n e,iO s k n=some e→P n)→(∀d∈l,P d.nm)→aR (l.foldl jV s)∧EB (l.foldl jV s)∧∀k n e,iO (l.foldl jV s) k n=some e→P n from
  hh l s0 (fun n=>∃d∈l,n=d.nm) Db (fun k n e he=>by cases he) (fun k n e he=>by cases he) fun d hd=>⟨d,hd,rfl⟩
 intro l
 induction l with
 | nil=>intro s P h1 h2 h3 _;exact⟨h1,h2,h3⟩
 | cons d l ih =>
  intro s P h1 h2 h3 h4
  refine ih (jV s d) P (tP h1 d) (Z7 h1 d h2) ((Al s d).all h1 (fun n _=>P n) h3 fun _ _=>h4 d (by simp)) fun d' hd'=>h4 d' (by simp[hd'])
structure NR (s s':Mt):Prop where
 L:s.L=s'.L
 fz:s.fz=s'.fz
 own:∀t n,iO s (t,-1) n=iO s' (t,-1) n
theorem qG{s s':Mt}{n:ByteArray}:∀{l:List Key},(∀k∈l,iO s k n=iO s' k n)→aY s l n=aY s' l n
 | [],_=>rfl
 | k::l,h=>by
  unfold aY
  rw[h k (by simp),qG fun k hk=>h k (by simp[hk])]
theorem NR.places{s s':Mt}(h:NR s s')(l:List Int)(n:ByteArray):aY s (l.map fun x=>(x,-1)) n=aY s' (l.map fun x=>(x,-1)) n:=by
 refine qG fun k hk=>?_
 obtain⟨x,_,rfl⟩:=List.mem_map.1 hk
 exact h.own x n
theorem NR.find{s s':Mt}(h:NR s s')(t:Int)(n:ByteArray):aJ s t n []=aJ s' t n []:=by
 unfold aJ
 rw[jA,jA,←h.L]
 exact h.places _ n
theorem NR.Z8{s s':Mt}(h:NR s s')(t:Int):qB s t=qB s' t:=by unfold qB;rw[h.fz]
theorem NR.ask{s s':Mt}(h:NR s s')(t:Int)(f:Bool)(l:List ByteArray):cB s t f l=cB s' t f l:=by unfold cB;rw[h.L]
theorem NR.chg{s s':Mt}(h:NR s s')(t:Int)(f:Bool)(l:List ByteArray):bK s t f l=bK s' t f l:=by unfold bK;rw[h.ask,h.Z8]
theorem NR.put{s s':Mt}(h:NR s s')(t:Int)(n:ByteArray)(e:En):NR (dH s (t,-1) n e) (dH s' (t,-1) n e):=⟨h.L,h.fz,fun u m=>by rw[qb,qb,h.own]⟩
theorem NR.del{s s':Mt}(h:NR s s')(hs:aR s)(hs':aR s')(t:Int)(n:ByteArray):NR (iV s (t,-1) n) (iV s' (t,-1) n):=⟨h.L,h.fz,fun u m=>by rw[su hs,su hs',h.own]⟩
theorem NR.Lr{s s':Mt}(h:NR s s')(L:List Th):NR (iB s L) (iB s' L):=⟨rfl,h.fz,h.own⟩
theorem NR.step{s s':Mt}(h:NR s s')(hs:aR s)(hs':aR s')(d:bT)(hd:d.op≠1):NR (jV s d) (jV s' d):=by
 unfold jV
 by_cases h0:d.op=0
 ·simp only[h0,if_true]
  unfold bt
  rw[h.chg]
  split
  ·exact h.put _ _ _
  ·exact h
 simp only[h0,hd,if_false]
 by_cases h2:d.op=2
 ·simp only[h2,if_true]
  unfold cq
  rw[h.chg,h.find]
  repeat' split
  ·exact h
  ·exact h
  ·exact h.put _ _ _
 simp only[h2,if_false]
 by_cases h3:d.op=3
 ·simp only[h3,if_true]
  unfold bf
  rw[h.chg,h.own]
  repeat' split
  ·exact h
  ·exact h
  ·exact h.del hs hs' _ _
 simp only[h3,if_false]
 by_cases h4:d.op=4
 ·simp only[h4,if_true]
  unfold aliasOf
  rw[h.chg,h.find]
  repeat' split
  ·exact h
  ·exact h
  ·exact h.put _ _ _
 simp only[h4,if_false]
 by_cases h5:d.op=5
 ·simp only[h5,if_true]
  unfold eD iW
  rw[h.chg,h.find,h.own]
  split
  ·exact h
  ·split
   ·exact h
   ·exact h.put _ _ _
 simp only[h5,if_false]
 by_cases h6:d.op=6
 ·simp only[h6,if_true]
  unfold cD
  rw[show val s.L d.a=val s'.L d.a by rw[h.L]]
  split
  ·exact h
  ·exact⟨h.L,by simp only[h.fz],h.own⟩
 simp only[h6,if_false]
 rw[h.L]
 repeat' split
 ·exact h.Lr _
 ·exact h.Lr _
 ·exact h.Lr _
 ·exact h.Lr _
 ·exact h.Lr _
 ·exact h
theorem NR.ref{s s':Mt}(h:NR s s')(d:bT)(hd:d.op=1):NR (jV s d) s':=by
 unfold jV
 rw[if_neg (by omega),if_pos hd]
 unfold cC
 split
 ·rename_i hk
  have hm:(0:Int)≤d.a:=by
   have:(iM s d.a&&dw d.c)=true:=by
    cases hb:(iM s d.a&&dw d.c) with
    | true=>rfl
    | false=>rw[hb] at hk;simp[cB] at hk
   simp only[iM,val,Bool.and_eq_true,decide_eq_true_eq] at this
   omega
  refine⟨h.L,h.fz,fun u m=>?_⟩
  rw[qb,if_neg,h.own]
  intro q
  have:=congrArg Prod.snd q.1
  simp only at this
  omega
 ·exact h
theorem NR.refl(s:Mt):NR s s:=⟨rfl,rfl,fun _ _=>rfl⟩
theorem NR.adr(l:List bT):NR (jW l) (jW (l.filter fun d=>decide (d.op≠1))):=by
 suffices hh:∀(l:List bT) (s s':Mt),aR s→aR s'→NR s s'→NR (l.foldl jV s) ((l.filter fun d=>decide (d.op≠1)).foldl jV s') from hh l _ _ Db Db (NR.refl _)
 intro l
 induction l with
 | nil=>intro s s' _ _ h;exact h
 | cons d l ih =>
  intro s s' hs hs' h
  rw[List.foldl_cons,List.filter_cons]
  by_cases hd:d.op=1
  ·rw[if_neg (by simp[hd])]
   exact ih _ _ (tP hs d) hs' (h.ref d hd)
  ·rw[if_pos (by simp[hd]),List.foldl_cons]
   exact ih _ _ (tP hs d) (tP hs' d) (h.step hs hs' d hd)
theorem NR.super{s s':Mt}(h:NR s s')(t:Int)(n:ByteArray)(th md:Int):bZ s t n th md=bZ s' t n th md:=by
 rw[nK,nK,←h.L,h.places]
theorem NR.chain{s s':Mt}(h:NR s s')(t:Int)(n:ByteArray):bp s t n []=bp s' t n []:=by
 have hc:∀k f,gl s t n k f=gl s' t n k f:=by
  intro k
  induction k with
  | zero=>intro f;rfl
  | succ k ih=>intro f;unfold gl;rw[h.super,ih]
 have hF:aX s t n []=aX s' t n []:=by unfold aX;rw[h.ask,h.find];rfl
 unfold bp
 rw[hF,hc,h.L]
def Rb (s:ByteArray):ByteArray:=if 40<(s++(⟨#[110]⟩:ByteArray)).size then ⟨#[s[0]! + 1]⟩ else s++(⟨#[110]⟩:ByteArray)
def iC (j:Nat):List UInt8:=if j<40 then List.replicate (j+1) 110 else 111::List.replicate (j-40) 110
def cand (j:Nat):ByteArray:=⟨(iC j).toArray⟩
theorem mW(j:Nat):(iC j).length=if j<40 then j+1 else j-40+1:=by
 unfold iC
 split<;>simp
theorem ze(j:Nat):(cand j).size=if j<40 then j+1 else j-40+1:=by
 show (iC j).toArray.size=_
 rw[List.size_toArray,mW]
theorem Wi{j:Nat}(h:j<80):cS (cand j)=true:=by
 unfold cS
 rw[ze]
 split<;>simp<;>omega
theorem LG(j:Nat):(iC j).head? = some 110∨(iC j).head? = some 111:=by
 unfold iC
 split
 ·exact .inl (by simp[List.replicate_succ])
 ·exact .inr rfl
theorem Rg{i j:Nat}(hi:i<80)(hj:j<80)(h:cand i=cand j):i=j:=by
 have h1:iC i=iC j:=by
  have:=congrArg (fun b:ByteArray=>b.data.toList) h
  simpa[cand] using this
 have hl:=congrArg List.length h1
 rw[mW,mW] at hl
 have hh:=congrArg List.head? h1
 unfold iC at hh
 split at hl<;>split at hl
 ·omega
 ·rename_i a b;rw[if_pos a,if_neg b] at hh;simp[List.replicate_succ] at hh
 ·rename_i a b;rw[if_neg a,if_pos b] at hh;simp[List.replicate_succ] at hh
 ·omega
theorem vj{j:Nat}{s:ByteArray}(h:s=fA∨s=fB∨s=fC∨s=fF):cand j≠s:=by
 intro e
 have h1:iC j=s.data.toList:=by
  have:=congrArg (fun b:ByteArray=>b.data.toList) e
  simpa[cand] using this
 have hh:=LG j
 rw[h1] at hh
 rcases h with rfl|rfl|rfl|rfl<;>simp at hh
theorem YF(l:List UInt8):((⟨l.toArray⟩:ByteArray)++(⟨#[110]⟩:ByteArray))=⟨(l++[110]).toArray⟩:=by
 apply ByteArray.ext
 show _=(l++[110]).toArray
 rw[ByteArray.data_append]
 simp
theorem Dl(n:Nat):List.replicate n (110:UInt8)++[110]=List.replicate (n+1) 110:=by rw[List.replicate_succ']
theorem Lx{j:Nat}(h:j<79):Rb (cand j)=cand (j+1):=by
 unfold Rb
 rw[cand,YF]
 have hs:(⟨(iC j++[110]).toArray⟩:ByteArray).size=(iC j).length+1:=by show (iC j++[110]).toArray.size=_;simp
 rw[hs]
 have hl:=mW j
 by_cases h1:j<39
 ·rw[if_pos (by omega)] at hl
  rw[hl,if_neg (by omega)]
  unfold cand iC
  rw[if_pos (by omega),if_pos (by omega),Dl]
 ·by_cases h2:j=39
  ·subst h2
   rw[if_pos (by omega)] at hl
   rw[hl,if_pos (by omega)]
   rfl
  ·rw[if_neg (by omega)] at hl
   rw[hl,if_neg (by omega)]
   unfold cand iC
   rw[if_neg (by omega),if_neg (by omega)]
   show (⟨(111::(List.replicate (j-40) 110++[110])).toArray⟩:ByteArray)=_
   rw[Dl,show j-40+1=j+1-40 by omega]
theorem Q9{l:List ByteArray}{j:Nat}(hj:j≤80)(h:∀i,i<j→cand i∈l):j≤l.length:=by
 have hd:∀i,iC i=(cand i).data.toList:=fun i=>by simp[cand]
 have hn:((List.range j).map iC).Nodup:=by
  rw[List.nodup_iff_pairwise_ne,List.pairwise_map]
  refine List.Pairwise.imp_of_mem (fun {a b} ha hb hab=>?_) List.nodup_range
  rw[List.mem_range] at ha hb
  exact fun e=>hab (Rg (by omega) (by omega) (by unfold cand;rw[e]))
 have hsub:∀x∈(List.range j).map iC,x∈l.map fun b=>b.data.toList:=fun x hx=>by
  obtain⟨i,hi,rfl⟩:=List.mem_map.1 hx
  exact List.mem_map.2 ⟨_,h i (List.mem_range.1 hi),(hd i).symm⟩
 have:∀(a b:List (List UInt8)),a.Nodup→(∀x∈a,x∈b)→a.length≤b.length:=by
  intro a
  induction a with
  | nil=>intro b _ _;simp
  | cons x a ih =>
   intro b hn hs
   simp only[List.nodup_cons] at hn
   have hx:=hs x (by simp)
   have:=ih (b.erase x) hn.2 fun y hy=>(List.mem_erase_of_ne (fun e:y=x=>hn.1 (by rw[←e];exact hy))).2 (hs y (by simp[hy]))
   rw[List.length_erase_of_mem hx] at this
   have hb:0<b.length:=List.length_pos_of_mem hx
   simp only[List.length_cons];omega
 have:=this _ _ hn hsub
 simpa using this
theorem GI{l:List bT}{j:Nat}(h:∀d∈l,d.name≠cand j)(k:Key):iO (jW l) k (cand j)=none:=by
 cases hg:iO (jW l) k (cand j) with
 | none=>rfl
 | some e =>
  obtain⟨d,hd,he⟩:=(zf l).2.2 _ _ _ hg
  exfalso
  unfold bT.nm nameOf at he
  repeat' split at he
  ·exact vj (.inl rfl) he
  ·exact vj (.inr (.inl rfl)) he
  ·exact vj (.inr (.inr (.inl rfl))) he
  ·exact vj (.inr (.inr (.inr rfl))) he
  ·exact h d hd he.symm
theorem wk(s:Mt)(t:Int)(n:ByteArray):∀(k:Nat) (f:Fo),(gl s t n k f).length≤k
 | 0,_=>Nat.le_refl _
 | k+1,f=>by
  unfold gl
  split
  ·have:=wk s t n k (bZ s t n f.th f.md).1
   simp only[List.length_cons];omega
  ·simp
theorem Ln{s:Mt}(hs:aR s){t:Nat}(ht:t<s.L.length)(n:ByteArray)(act:List Int):(bp s t n act).1.length≤2002:=by
 have va:(aP s.L t).length≤1000:=hs.ok.wf.base.elim fun _ B=>dW B ht (hs.ok.wf.ord ht)
 unfold bp
 split
 ·simp
 ·have:=wk s t n (2*(aP s.L t).length+2) (aX s t n act).1
  simp only;omega
end Go.Proofs.YtbhigdljojlhnaaGreat

namespace Go.Proofs.YtbhigdljojlhnaaGreat
set_option linter.all false
open Go.Vc Go.Proofs
set_option maxRecDepth 100000
set_option maxHeartbeats 4000000
attribute [local irreducible] bx jv
theorem cU(r:Rt)(t:Int):ai Tryz.prog 84 [aA r] (.cons (.ptr 0 [.d]) (.cons (ag t) .nil)) fun av X κ=>av=aN (val r.R t)∧X=[aA r]∧κ=[]:=by
 refine fb Tryz.func84 Tryz.ntmps84 [.tmp 4] fun w0 I0 F0 hF=>?_
 repeat first|refine n1 ?_|(first|refine rg 0 [0,1] [0,1] [] ?_|refine rg 1 [0,1] [4] [(2,7),(8,13)] ?_);simp[hF,aA,dR]
 refine(cR r.R t).go [(0,[.d,.f 1])] (by simp[hF,aA,dR]) ?_;rintro av X κ ⟨rfl,rfl,rfl⟩;simp[hF,aA,dR]
 repeat refine n1 ?_
 (try refine nr ?_);(repeat first|refine aF ?_|refine aG ?_);refine ak.o [4] [0] [] ?_;simp[hF,an,aa,ah,aA,dR]
theorem jT(n:ByteArray):ai Tryz.prog 101 [] (.cons (.val (.string n)) .nil) fun av X κ=>av=aN (cS n)∧X=[]∧κ=[]:=by
 refine fb Tryz.func101 Tryz.ntmps101 [.tmp 2] fun w0 I0 F0 hF=>?_
 by_cases h1:1≤n.size
 ·have VB:(1:Int)≤n.size:=by omega
  have hd:decide ((n.size:Int)≤40)=cS n:=by
   have:((n.size:Int)≤40)↔n.size≤40:=by omega
   simp[cS,h1,this]
  repeat first|refine n1 ?_|(first|refine rg 0 [0] [0] [] ?_|refine rg 1 [0] [2] [(3,6)] ?_);simp[hF,h1,VB]
  (try refine nr ?_);(repeat first|refine aF ?_|refine aG ?_);refine ak.o [2] [] [] ?_;simp[hF,an,aa,ah,hd]
 ·have VB:¬(1:Int)≤n.size:=by omega
  have hd:cS n=false:=by simp[cS,h1]
  repeat first|refine n1 ?_|(first|refine rg 0 [0] [0] [] ?_|refine rg 1 [0] [2] [(3,6)] ?_);simp[hF,h1,VB]
  (try refine nr ?_);(repeat first|refine aF ?_|refine aG ?_);refine ak.o [2] [] [] ?_;simp[hF,an,aa,ah,hd]
theorem Kk(ex:Bool)(l:List Int)(v:Int)(hl:l.length≤100000000):ai Tryz.prog 103 [.sl true () 1 (aj l)] (.cons (.sub 0 [] 0 l.length ex) (.cons (ag v) .nil))
  fun av X κ=>av=aN (bh l v)∧X=[.sl true () 1 (aj l)]∧κ=[]:=by
 refine fb Tryz.func103 Tryz.ntmps103 [.tmp 4] fun w0 I0 F0 hF=>?_
 repeat first|refine n1 ?_|refine n3 ?_|(first|refine rg 0 [0,1] [0,1] [] ?_|refine rg 1 [0,1] [0,1,5] [] ?_);simp[hF]
 refine VS.rounds (fun m st=>∃(i:Nat),i+m=l.length∧(∀j,(hj:j<i)→(h:j<l.length)→l[j]≠v)∧st=⟨[(0,.sub 0 [] 0 l.length ex),(1,ag v),(5,ag i)],[.sl true () 1 (aj l)],[],[]⟩) ⟨l.length,0,by omega,fun j hj=>by omega,by simp⟩ ?_
 rintro m st ⟨i,hi,hall,rfl⟩
 repeat first|refine n1 ?_|(first|refine rg 2 [0,1,5] [0,1,5,9] [] ?_|refine nc ?_);simp[hF]
 refine⟨fun hlt=>?_,fun hge=>?_⟩
 ·have hil:i<l.length:=by omega
  have hn:=bP hil
  by_cases he:l[i]=v
  ·have hh:=Kf hil he
   repeat first|refine n1 ?_|refine n2 ?_|refine n3 ?_|(first|refine rg 4 [0,1,5] [0,1,5,17] [] ?_|refine rg 5 [] [4] [] ?_|refine nc ?_);simp[hF,hn,hil,he]
   (try refine nr ?_);(repeat first|refine aF ?_|refine aG ?_);refine ak.o [4] [0] [] ?_;simp[hF,an,aa,ah,hh]
  ·repeat first|refine n1 ?_|refine n2 ?_|refine n3 ?_|refine n4 ?_|refine n5 ?_|refine n6 ?_|(first|refine rg 3 [0,1,5] [0,1,5] [] ?_|refine rg 4 [0,1,5] [0,1,5,17] [] ?_|refine nc ?_);simp[hF,hn,hil,he]
   refine aO.of [0,1,5] [0] (m-1) (by omega) (by simp[hF]) ?_
   refine⟨i+1,by omega,fun j hj h=>?_,?_⟩
   ·by_cases hji:j=i
    ·subst hji;exact he
    ·exact hall j (by omega) h
   ·simp
    exact IntWalk.i64_in _ (by omega)
 ·have hh:bh l v=false:=CK fun j hj=>hall j (by omega) hj
  repeat first|refine n1 ?_|refine n7 ?_|refine rg 6 [] [4] [] ?_;simp[hF]
  (try refine nr ?_);(repeat first|refine aF ?_|refine aG ?_);refine ak.o [4] [0] [] ?_;simp[hF,an,aa,ah,hh]
theorem gA(r:Rt)(hl:r.rows.length≤100000)(a b:Int)(n:ByteArray):ai Tryz.prog 102 [aA r] (.cons (.ptr 0 [.d]) (.cons (ag a) (.cons (ag b) (.cons (.val (.string n)) .nil))))
  fun av X κ=>av=ag (v8 r.rows ((a,b),n))∧X=[aA r]∧κ=[]:=by
 refine fb Tryz.func102 Tryz.ntmps102 [.tmp 8] fun w0 I0 F0 hF=>?_
 repeat first|refine n1 ?_|refine n3 ?_|(first|refine rg 0 [0,1,2,3] [0,1,2,3] [] ?_|refine rg 1 [0,1,2,3] [0,1,2,3,9] [] ?_);simp[hF]
 refine VS.rounds (fun m st=>∃(i:Nat),i+m=r.rows.length∧(∀j,(h:j<r.rows.length)→j<i→mU ((a,b),n) r.rows[j]=false)∧st=⟨[(0,.ptr 0 [.d]),(1,ag a),(2,ag b),(3,.val (.string n)),(9,ag i)],[aA r],[],[]⟩) ⟨r.rows.length,0,by omega,(fun j h hj=>by omega),by simp⟩ ?_
 rintro m st ⟨i,hi,hall,rfl⟩
 repeat first|refine n1 ?_|(first|refine rg 2 [0,1,2,3,9] [0,1,2,3,9,17] [] ?_|refine nc ?_);simp[hF,aA]
 refine⟨fun hlt=>?_,fun hge=>?_⟩
 ·have hil:i<r.rows.length:=by omega
  have hn:=lE hil
  have fin:mU ((a,b),n) r.rows[i]=false→∀j,(h:j<r.rows.length)→j<i+1→mU ((a,b),n) r.rows[j]=false:=fun h j hj hji=>by
   by_cases e:j=i
   ·subst e;exact h
   ·exact hall j hj (by omega)
  have hit:mU ((a,b),n) r.rows[i]=true→v8 r.rows ((a,b),n)=i:=fun h=>hU hil (fun j h=>hall j (by omega) h) h
  obtain⟨⟨⟨⟨x1,x2⟩,x3⟩,x4⟩,hx⟩:∃x,r.rows[i]=x:=⟨_,rfl⟩
  rw[hx] at hn fin hit
  by_cases h1:x1=a
  ·by_cases h2:x2=b
   ·by_cases h3:x3=n
    ·have hr:=hit (by simp[mU,h1,h2,h3])
     repeat first|refine n1 ?_|refine n2 ?_|refine n3 ?_|(first|refine rg 4 [0,1,2,3,9] [0,1,2,3,9,10] [] ?_|refine rg 5 [0,1,2,3,9,10] [0,1,2,3,9,42] [(4,31),(10,37)] ?_|refine rg 6 [9] [8] [] ?_|refine nc ?_);simp[hF,aA,hn,hil,xS,aK,h1,h2,h3]
     (try refine nr ?_);(repeat first|refine aF ?_|refine aG ?_);refine ak.o [8] [0] [] ?_;simp[hF,an,aa,ah,aA,hr]
    ·repeat first|refine n1 ?_|refine n2 ?_|refine n3 ?_|refine n4 ?_|refine n5 ?_|refine n6 ?_|(first|refine rg 3 [0,1,2,3,9] [0,1,2,3,9] [] ?_|refine rg 4 [0,1,2,3,9] [0,1,2,3,9,10] [] ?_|refine rg 5 [0,1,2,3,9,10] [0,1,2,3,9,42] [(4,31),(10,37)] ?_|refine nc ?_);simp[hF,aA,hn,hil,xS,aK,h1,h2,h3]
     refine aO.of [0,1,2,3,9] [0] (m-1) (by omega) (by simp[hF]) ?_
     refine⟨i+1,by omega,fin (by simp[mU,h3]),?_⟩
     simp[aA]
     exact IntWalk.i64_in _ (by omega)
   ·repeat first|refine n1 ?_|refine n2 ?_|refine n3 ?_|refine n4 ?_|refine n5 ?_|refine n6 ?_|(first|refine rg 3 [0,1,2,3,9] [0,1,2,3,9] [] ?_|refine rg 4 [0,1,2,3,9] [0,1,2,3,9,10] [] ?_|refine rg 5 [0,1,2,3,9,10] [0,1,2,3,9,42] [(4,31),(10,37)] ?_|refine nc ?_);simp[hF,aA,hn,hil,xS,aK,h1,h2]
    refine aO.of [0,1,2,3,9] [0] (m-1) (by omega) (by simp[hF]) ?_
    refine⟨i+1,by omega,fin (by simp[mU,h2]),?_⟩
    simp[aA]
    exact IntWalk.i64_in _ (by omega)
  ·repeat first|refine n1 ?_|refine n2 ?_|refine n3 ?_|refine n4 ?_|refine n5 ?_|refine n6 ?_|(first|refine rg 3 [0,1,2,3,9] [0,1,2,3,9] [] ?_|refine rg 4 [0,1,2,3,9] [0,1,2,3,9,10] [] ?_|refine rg 5 [0,1,2,3,9,10] [0,1,2,3,9,42] [(4,31),(10,37)] ?_|refine nc ?_);simp[hF,aA,hn,hil,xS,aK,h1]
   refine aO.of [0,1,2,3,9] [0] (m-1) (by omega) (by simp[hF]) ?_
   refine⟨i+1,by omega,fin (by simp[mU,h1]),?_⟩
   simp[aA]
   exact IntWalk.i64_in _ (by omega)
 ·have hr:v8 r.rows ((a,b),n)=-1:=fV fun j h=>hall j h (by omega)
  repeat first|refine n1 ?_|refine n7 ?_|refine rg 7 [] [8] [] ?_;simp[hF]
  (try refine nr ?_);(repeat first|refine aF ?_|refine aG ?_);refine ak.o [8] [0] [] ?_;simp[hF,an,aa,ah,aA,hr]
theorem nL(r:Rt)(hl:r.rows.length≤100000)(a b:Int)(n:ByteArray)(e:En):ai Tryz.prog 99 [aA r] (.cons (.ptr 0 [.d]) (.cons (ag a) (.cons (ag b) (.cons (.val (.string n)) (.cons (za e) .nil)))))
  fun av X κ=>av=.cT .nil∧X=[aA { r with rows:=cz r.rows ((a,b),n) e }]∧κ=[(0,[.d])]:=by
 refine fb Tryz.func99 Tryz.ntmps99 [] fun w0 I0 F0 hF=>?_
 cases hg:bF r.rows ((a,b),n) with
 | none =>
  have hp:=jY hg
  have dD:=Lq r.rows (((a,b),n),e)
  rw[←Dd hg e] at dD
  simp only[xS,aK] at dD
  have hlen:(cz r.rows ((a,b),n) e).length=r.rows.length+1:=by rw[Dd hg];simp
  have b1:(r.rows.length+1)*72≤140737488355328:=by omega
  have b2:r.rows.length+1≤9223372036854775807:=by omega
  have hmid:(jl (cz r.rows ((a,b),n) e)).mid 0 (r.rows.length+1)=jl (cz r.rows ((a,b),n) e):=by rw[←hlen];exact Am _
  repeat first|refine n1 ?_|(first|refine rg 0 [0,1,2,3,4] [0,1,2,3,9] [] ?_|refine rg 1 [0,1,2,3,9] [0,1,2,3,9,10] [] ?_);simp[hF]
  refine(gA r hl a b n).go [(0,[])] (by simp[hF,aA,hp]) ?_;rintro av X κ ⟨rfl,rfl,rfl⟩;simp[hF,aA,hp]
  repeat first|refine n1 ?_|(first|refine rg 2 [0,1,2,3,9,10] [0,1,2,3,9,10,17] [] ?_|refine nc ?_);simp[hF]
  refine eP 0 [.d,.f 2] ?_;simp[hF,St.lift,AV.lift,cJ,cK,dV,isNode,aA]
  repeat first|(((refine dr 3 0 [0,1,2,3,9] [] [] [⟨0,1,262144,5⟩,⟨0,1,524288,5⟩,⟨2,524288,1048576,5⟩,⟨4,1048576,2097152,5⟩,⟨8,2097152,4194304,6⟩,⟨0,2,8388608,5⟩,⟨0,4,16777216,5⟩,⟨0,8,33554432,5⟩,⟨0,512,67108864,6⟩,⟨480,125829120,134217728,5⟩,⟨512,134217728,268435456,4⟩,⟨1040,272629760,536870912,0⟩,⟨4095,262144,1073741824,5⟩,⟨8191,1073741824,2147483648,5⟩,⟨12287,2684354560,0,0⟩] (.take 0 (.take 1 (.take 2 (.take 3 (.take 4 (.take 5 (.take 6 (.take 7 (.take 8 (.take 9 (.fork (.alt 10 (.fork (.alt 11 (.take 12 (.take 13 (.fork (.alt 14 (.done) (.nil))))) (.nil))) (.nil))))))))))))) (.run [0,1,2,3,4,5,6,7,8,9,10,11,12,13,14] (.done)) ?_;simp only[nD]));simp[hF,aA,dD,b1,b2,hmid])
  (try refine nr ?_);(repeat first|refine aF ?_|refine aG ?_);refine ak.o [] [0] [(0,[.d])] ?_;simp[hF,an,aa,ah,aA]
 | some e0 =>
  obtain⟨hp,hi,hat⟩:=jX hg
  have hn:=lE hi
  rw[hat] at hn
  have dB:=QZ r.rows (eB r.rows ((a,b),n)) (((a,b),n),e)
  rw[←An hg] at dB
  simp only[xS,aK] at dB hn
  have h0:¬((eB r.rows ((a,b),n):Nat):Int)<0:=by omega
  repeat first|refine n1 ?_|(first|refine rg 0 [0,1,2,3,4] [0,1,2,3,9] [] ?_|refine rg 1 [0,1,2,3,9] [0,1,2,3,9,10] [] ?_);simp[hF]
  refine(gA r hl a b n).go [(0,[])] (by simp[hF,aA,hp]) ?_;rintro av X κ ⟨rfl,rfl,rfl⟩;simp[hF,aA,hp]
  generalize eB r.rows ((a,b),n)=i at *
  repeat first|refine n1 ?_|refine n2 ?_|refine n4 ?_|(first|refine rg 2 [0,1,2,3,9,10] [0,1,2,3,9,10,17] [] ?_|(refine dr 4 0 [0,9,10] [] [] [⟨0,1,4294967296,5⟩,⟨1,4294967296,8589934592,5⟩,⟨2,8589934592,17179869184,5⟩,⟨4,17179869184,34359738368,6⟩,⟨0,1024,68719476736,5⟩,⟨0,512,137438953472,6⟩,⟨63,103079215104,274877906944,5⟩,⟨127,274877906944,549755813888,5⟩,⟨191,687194767360,0,0⟩] (.take 0 (.take 1 (.take 2 (.take 3 (.take 4 (.take 5 (.take 6 (.take 7 (.fork (.alt 8 (.done) (.nil))))))))))) (.run [0,1,2,3,4,5,6,7,8] (.done)) ?_;simp only[nD])|refine nc ?_);simp[hF,aA,h0,hn,hi,dB]
  (try refine nr ?_);(repeat first|refine aF ?_|refine aG ?_);refine ak.o [] [0] [(0,[.d])] ?_;simp[hF,an,aa,ah,aA]
theorem Kl{act:List Int}{i:Nat}(h:i<act.length):act.drop i=act[i]::act.drop (i+1):=List.drop_eq_getElem_cons h
def Ao (s:Mt) (x:Int) (n:ByteArray) (act:List Int):Fo×Bool:=match jM s x n act with
 | some f=>(f,true)
 | none=>(Fo.none,false)
theorem V6{c:Nat}{s:Mt}{r:Rt}(T:TR c s r)(hc:c≤100000)(x:Int)(n:ByteArray)(act:List Int)(ex:Bool)(ha:act.length≤1000):ai Tryz.prog 122 [aA r] (.cons (.ptr 0 [.d]) (.cons (ag x) (.cons (.val (.string n)) (.cons (.cA 1 (aj act) ex) .nil))))
  fun av X κ=>av=Df (Ao s x n act)∧X=[aA r,.box true () (bR (Ao s x n act).1)]∧κ=[]:=by
 have hl:r.rows.length≤100000:=Nat.le_trans T.cap.1 hc
 refine fb Tryz.func122 Tryz.ntmps122 [.cell 8 133,.tmp 9] fun w0 I0 F0 hF=>?_
 repeat first|refine n1 ?_|refine n3 ?_|(first|refine rg 0 [0,1,2,3] [0,1,2,3,8] [] ?_|refine rg 1 [0,1,2,3,8] [0,1,2,3,8,10] [] ?_);simp[hF]
 refine VS.pick [0,1,2,3,8,10] [0,1] (by simp[hF]) ?_;simp[hF]
 refine VS.rounds (fun m st=>∃(i:Nat),i+m=act.length∧jM s x n act=jM s x n (act.drop i)∧st=⟨[(0,.ptr 0 [.d]),(1,ag x),(2,.val (.string n)),(3,.cA 1 (aj act) ex),(8,.ptr 1 [.d]),(10,ag i)],[aA r,.box true () (bR Fo.none)],[],[]⟩) ⟨act.length,0,by omega,rfl,by simp[aA,bR,Fo.none,En.none,aK]⟩ ?_
 rintro m st ⟨i,hi,hf,rfl⟩
 repeat first|refine n1 ?_|(first|refine rg 2 [0,1,2,3,8,10] [0,1,2,3,8,10,16] [] ?_|refine nc ?_);simp[hF]
 refine⟨fun hlt=>?_,fun hge=>?_⟩
 ·have hil:i<act.length:=by omega
  have hn:=bP hil
  rw[Kl hil,jM,T.rows] at hf
  cases hg:bF r.rows ((x,act[i]),n) with
  | none =>
   have hp:=jY hg
   rw[hg] at hf
   repeat first|refine n1 ?_|refine n2 ?_|refine n3 ?_|refine rg 4 [0,1,2,3,8,10] [0,1,2,3,8,10,11] [] ?_;simp[hF,hn,hil]
   refine(gA r hl x act[i] n).go [(0,[])] (by simp[hF,aA,hp]) ?_;rintro av X κ ⟨rfl,rfl,rfl⟩;simp[hF,aA,hp]
   repeat first|refine n1 ?_|refine n2 ?_|refine n4 ?_|refine n5 ?_|refine n6 ?_|(first|refine rg 3 [0,1,2,3,8,10] [0,1,2,3,8,10] [] ?_|refine rg 5 [0,1,2,3,8,10,11] [0,1,2,3,8,10,11,28] [] ?_|refine nc ?_);simp[hF]
   refine aO.of [0,1,2,3,8,10] [0,1] (m-1) (by omega) (by simp[hF]) ?_
   refine⟨i+1,by omega,hf,?_⟩
   simp[aA]
   exact IntWalk.i64_in _ (by omega)
  | some e =>
   obtain⟨hp,hi2,hat⟩:=jX hg
   rw[hg] at hf
   have hr:Ao s x n act=(⟨e,x,act[i]⟩,true):=by unfold Ao;rw[hf]
   have hn2:=lE hi2
   rw[hat] at hn2
   simp only[xS,aK] at hn2
   repeat first|refine n1 ?_|refine n2 ?_|refine n3 ?_|refine rg 4 [0,1,2,3,8,10] [0,1,2,3,8,10,11] [] ?_;simp[hF,hn,hil]
   refine(gA r hl x act[i] n).go [(0,[])] (by simp[hF,aA,hp]) ?_;rintro av X κ ⟨rfl,rfl,rfl⟩;simp[hF,aA,hp]
   generalize eB r.rows ((x,act[i]),n)=k at *
   repeat first|refine n1 ?_|(first|refine rg 5 [0,1,2,3,8,10,11] [0,1,2,3,8,10,11,28] [] ?_|(refine dr 6 0 [0,1,3,8,10,11] [8,9] [] [⟨0,1,536870912,5⟩,⟨1,536870912,1073741824,5⟩,⟨2,1073741824,2147483648,5⟩,⟨4,2147483648,4294967296,6⟩,⟨0,2048,8589934592,5⟩,⟨24,12884901888,17179869184,5⟩,⟨32,17179869184,34359738368,5⟩,⟨64,34359738368,68719476736,6⟩,⟨0,2,137438953472,5⟩,⟨0,8,274877906944,5⟩,⟨0,1024,549755813888,5⟩,⟨1536,824633720832,1099511627776,5⟩,⟨2048,1099511627776,2199023255552,6⟩,⟨4480,2405181685760,4398046511104,5⟩,⟨16383,4398046511360,0,0⟩,⟨32767,0,512,5⟩] (.take 0 (.take 1 (.take 2 (.take 3 (.take 4 (.take 5 (.take 6 (.take 7 (.take 8 (.take 9 (.take 10 (.take 11 (.take 12 (.take 13 (.fork (.alt 14 (.take 15 (.done)) (.nil))))))))))))))))) (.run [0,1,2,3,4,5,6,7,8,9,10,11,12,13,14,15] (.done)) ?_;simp only[nD])|refine nc ?_);simp[hF,aA,hn,hil,hn2,hi2,bR,aK,Fo.none,En.none]
   (try refine nr ?_);(repeat first|refine aF ?_|refine aG ?_);refine ak.o [8,9] [0,1] [] ?_;simp[hF,an,aa,ah,aA,hr,bR,aK]
 ·obtain rfl:i=act.length:=by omega
  rw[List.drop_length,jM,T.rows] at hf
  cases hg:bF r.rows ((x,-1),n) with
  | none =>
   have hp:=jY hg
   rw[hg] at hf
   have hr:Ao s x n act=(Fo.none,false):=by unfold Ao;rw[hf];rfl
   repeat first|refine n1 ?_|refine n7 ?_|refine rg 7 [0,1,2,8] [0,1,8,12] [] ?_;simp[hF]
   refine(gA r hl x (-1) n).go [(0,[])] (by simp[hF,aA,hp]) ?_;rintro av X κ ⟨rfl,rfl,rfl⟩;simp[hF,aA,hp]
   repeat first|refine n1 ?_|refine n2 ?_|(first|refine rg 8 [0,1,8,12] [0,1,8,12,48] [] ?_|refine rg 10 [8] [8,9] [] ?_|refine nc ?_);simp[hF,bR,aK,Fo.none,En.none]
   (try refine nr ?_);(repeat first|refine aF ?_|refine aG ?_);refine ak.o [8,9] [0,1] [] ?_;simp[hF,an,aa,ah,aA,hr,bR,aK,Fo.none,En.none]
  | some e =>
   obtain⟨hp,hi2,hat⟩:=jX hg
   rw[hg] at hf
   have hr:Ao s x n act=(⟨e,x,-1⟩,true):=by unfold Ao;rw[hf];rfl
   have hn2:=lE hi2
   rw[hat] at hn2
   simp only[xS,aK] at hn2
   repeat first|refine n1 ?_|refine n7 ?_|refine rg 7 [0,1,2,8] [0,1,8,12] [] ?_;simp[hF]
   refine(gA r hl x (-1) n).go [(0,[])] (by simp[hF,aA,hp]) ?_;rintro av X κ ⟨rfl,rfl,rfl⟩;simp[hF,aA,hp]
   generalize eB r.rows ((x,-1),n)=k at *
   repeat first|refine n1 ?_|(first|refine rg 8 [0,1,8,12] [0,1,8,12,48] [] ?_|refine rg 9 [0,1,8,12] [8,9] [] ?_|refine nc ?_);simp[hF,aA,hn2,hi2,bR,aK,Fo.none,En.none]
   (try refine nr ?_);(repeat first|refine aF ?_|refine aG ?_);refine ak.o [8,9] [0,1] [] ?_;simp[hF,an,aa,ah,aA,hr,bR,aK]
theorem tN{c:Nat}{s:Mt}{r:Rt}(T:TR c s r)(hc:c≤100000)(aL:List Int)(U8:Bool)(ht:aL.length≤1000)(n:ByteArray)(act:List Int)(ex:Bool)(ha:act.length≤1000) :
  ai Tryz.prog 88 [aA r] (.cons (.ptr 0 [.d]) (.cons (.cA 1 (aj aL) U8) (.cons (.val (.string n)) (.cons (.cA 1 (aj act) ex) .nil))))
  fun av X κ=>av=.cT (.cons (o6 (toldOf (aY s (gK aL act) n)).1) (.cons (ag (toldOf (aY s (gK aL act) n)).2) .nil))∧X=[aA r,.box true () (bR (toldOf (aY s (gK aL act) n)).1)]∧κ=[]:=by
 obtain⟨res,hres⟩:∃res,res=toldOf (aY s (gK aL act) n):=⟨_,rfl⟩
 rw[←hres]
 refine fb Tryz.func88 Tryz.ntmps88 [.cell 8 133,.tmp 9] fun w0 I0 F0 hF=>?_
 repeat first|refine n1 ?_|refine n3 ?_|(first|refine rg 0 [0,1,2,3] [0,1,2,3,8] [] ?_|refine rg 1 [0,1,2,3,8] [0,1,2,3,8,10] [] ?_);simp[hF]
 refine VS.pick [0,1,2,3,8,10] [0,1] (by simp[hF]) ?_;simp[hF]
 refine VS.rounds (fun m st=>∃(i:Nat),i+m=aL.length∧res=toldOf (aY s (gK (aL.drop i) act) n)∧st=⟨[(0,.ptr 0 [.d]),(1,.cA 1 (aj aL) U8),(2,.val (.string n)),(3,.cA 1 (aj act) ex),(8,.ptr 1 [.d]),(10,ag i)],[aA r,.box true () (bR Fo.none)],[],[]⟩) ⟨aL.length,0,by omega,hres,by simp[aA,bR,Fo.none,En.none,aK]⟩ ?_
 rintro m st ⟨i,hi,hf,rfl⟩
 repeat first|refine n1 ?_|(first|refine rg 2 [0,1,2,3,8,10] [0,1,2,3,8,10,16] [] ?_|refine nc ?_);simp[hF]
 refine⟨fun hlt=>?_,fun hge=>?_⟩
 ·have hil:i<aL.length:=by omega
  have hn:=bP hil
  rw[Kl hil,si,wg] at hf
  have hw:=V6 T hc aL[i] n act ex ha
  unfold Ao at hw
  cases hg:jM s aL[i] n act with
  | none =>
   rw[hg] at hf hw
   repeat first|refine n1 ?_|refine n2 ?_|refine n3 ?_|refine rg 4 [0,1,2,3,8,10] [0,1,2,3,8,10,11,12] [] ?_;simp[hF,hn,hil]
   refine(hw).go [(0,[])] (by simp[hF,aA,bR,aK,Fo.none,En.none]) ?_;rintro av X κ ⟨rfl,rfl,rfl⟩;simp[hF,aA,bR,aK,Fo.none,En.none]
   repeat first|refine n1 ?_|refine n2 ?_|refine n4 ?_|refine n5 ?_|refine n6 ?_|(first|refine rg 3 [0,1,2,3,8,10] [0,1,2,3,8,10] [] ?_|refine rg 5 [0,1,2,3,8,10,11,12] [0,1,2,3,8,10,11,12,36] [(1,31)] ?_|refine rg 7 [0,1,2,3,8,10,11,12] [0,1,2,3,8,10,11,38] [] ?_|refine nc ?_);simp[hF]
   refine aO.of [0,1,2,3,8,10] [0,1] (m-1) (by omega) (by simp[hF]) ?_
   refine⟨i+1,by omega,hf,?_⟩
   simp[aA,bR,Fo.none,En.none,aK]
   exact IntWalk.i64_in _ (by omega)
  | some f =>
   rw[hg] at hf hw
   by_cases hb:f.e.body=-1
   ·have hr:res=(Fo.none,3):=by rw[hf];simp[toldOf,hb]
    repeat first|refine n1 ?_|refine n2 ?_|refine n3 ?_|refine rg 4 [0,1,2,3,8,10] [0,1,2,3,8,10,11,12] [] ?_;simp[hF,hn,hil]
    refine(hw).go [(0,[])] (by simp[hF,aA,bR,aK,Fo.none,En.none]) ?_;rintro av X κ ⟨rfl,rfl,rfl⟩;simp[hF,aA,bR,aK,Fo.none,En.none]
    repeat first|refine n1 ?_|(first|refine rg 5 [0,1,2,3,8,10,11,12] [0,1,2,3,8,10,11,12,36] [(1,31)] ?_|refine rg 6 [8] [8,9] [] ?_|refine nc ?_);simp[hF,hb]
    (try refine nr ?_);(repeat first|refine aF ?_|refine aG ?_);refine ak.o [8,9] [0,1] [] ?_;simp[hF,an,aa,ah,aA,hr,bR,aK,Fo.none,En.none]
   ·have hr:res=(f,0):=by rw[hf];simp[toldOf,hb]
    repeat first|refine n1 ?_|refine n2 ?_|refine n3 ?_|refine rg 4 [0,1,2,3,8,10] [0,1,2,3,8,10,11,12] [] ?_;simp[hF,hn,hil]
    refine(hw).go [(0,[])] (by simp[hF,aA,bR,aK,Fo.none,En.none]) ?_;rintro av X κ ⟨rfl,rfl,rfl⟩;simp[hF,aA,bR,aK,Fo.none,En.none]
    repeat first|refine n1 ?_|refine n2 ?_|(first|refine rg 5 [0,1,2,3,8,10,11,12] [0,1,2,3,8,10,11,12,36] [(1,31)] ?_|refine rg 7 [0,1,2,3,8,10,11,12] [0,1,2,3,8,10,11,38] [] ?_|refine rg 8 [8,11] [8,9] [] ?_|refine nc ?_);simp[hF,hb]
    (try refine nr ?_);(repeat first|refine aF ?_|refine aG ?_);refine ak.o [8,9] [0,1] [] ?_;simp[hF,an,aa,ah,aA,hr,bR,aK,Fo.none,En.none]
 ·obtain rfl:i=aL.length:=by omega
  have hr:res=(Fo.none,3):=by rw[hf,List.drop_length];rfl
  repeat first|refine n1 ?_|refine n7 ?_|refine rg 9 [8] [8,9] [] ?_;simp[hF]
  (try refine nr ?_);(repeat first|refine aF ?_|refine aG ?_);refine ak.o [8,9] [0,1] [] ?_;simp[hF,an,aa,ah,aA,hr,bR,aK,Fo.none,En.none]
theorem TR.dX{c:Nat}{s:Mt}{r:Rt}(T:TR c s r)(t:Int):val r.R t=val s.L t:=T.lr.dX t
theorem tO{c:Nat}{s:Mt}{r:Rt}(h:aR s)(T:TR c s r)(t:Nat)(ht:t<s.L.length):ai Tryz.prog 87 [aA r] (.cons (.ptr 0 [.d]) (.cons (ag t) .nil))
  fun av X κ=>av=.cA 1 (aj (aP s.L t)) false∧X=[aA r]∧κ=[]:=by
 have hO:=Gb (T.lr.wf h.ok.wf) t (by rw[T.lr.len];exact ht)
 rw[T.lr.rW h.ok.wf ht] at hO
 refine fb Tryz.func87 Tryz.ntmps87 [.tmp 4] fun w0 I0 F0 hF=>?_
 repeat first|refine n1 ?_|(first|refine rg 0 [0,1] [0,1] [] ?_|refine rg 1 [0,1] [5] [] ?_);simp[hF,aA,dR]
 refine(hO).go [(0,[.d,.f 1])] (by simp[hF,aA,dR]) ?_;rintro av X κ ⟨rfl,rfl,rfl⟩;simp[hF,aA,dR]
 repeat first|refine n1 ?_|refine rg 2 [5] [4] [] ?_;simp[hF]
 (try refine nr ?_);(repeat first|refine aF ?_|refine aG ?_);refine ak.o [4] [0] [] ?_;simp[hF,an,aa,ah,aA,dR]
theorem vi{c:Nat}{s:Mt}{r:Rt}(T:TR c s r)(t:Int):ai Tryz.prog 100 [aA r] (.cons (.ptr 0 [.d]) (.cons (ag t) .nil)) fun av X κ=>av=aN (iM s t)∧X=[aA r]∧κ=[]:=by
 have oF:=T.dX t
 refine fb Tryz.func100 Tryz.ntmps100 [.tmp 4] fun w0 I0 F0 hF=>?_
 repeat first|refine n1 ?_|(first|refine rg 0 [0,1] [0,1] [] ?_|refine rg 1 [0,1] [4] [(3,8)] ?_);simp[hF]
 cases hv:val s.L t with
 | false =>
  have Yx:val r.R t=false:=oF.trans hv
  have hm:iM s t=false:=by simp[iM,hv]
  refine(cU r t).go [(0,[])] (by simp[hF,aA,Yx]) ?_;rintro av X κ ⟨rfl,rfl,rfl⟩;simp[hF,aA,Yx]
  repeat refine n1 ?_
  (try refine nr ?_);(repeat first|refine aF ?_|refine aG ?_);refine ak.o [4] [0] [] ?_;simp[hF,an,aa,ah,aA,hm]
 | true =>
  have Yx:val r.R t=true:=oF.trans hv
  obtain⟨t,rfl,ht⟩:=bD Yx
  have hn:=bH ht
  have hk:=(T.lr.th t (by rw[←T.lr.len];exact ht)).1
  rw[aQ ht] at hk
  have hm:iM s t=decide (r.R[t].kind=1):=by simp[iM,hv,hk]
  refine(cU r t).go [(0,[])] (by simp[hF,aA,Yx,hn,ht,dR]) ?_;rintro av X κ ⟨rfl,rfl,rfl⟩;simp[hF,aA,Yx,hn,ht,dR]
  repeat refine n1 ?_
  (try refine nr ?_);(repeat first|refine aF ?_|refine aG ?_);refine ak.o [4] [0] [] ?_;simp[hF,an,aa,ah,aA,dR,hm]
theorem ZT{s:Mt}{t:Int}{n:ByteArray}:(val s.L t=false→bK s t true [n]=1)∧(val s.L t=true→cS n=false→bK s t true [n]=6) ∧
  (val s.L t=true→cS n=true→qB s t=true→bK s t true [n]=13)∧(val s.L t=true→cS n=true→qB s t=false→bK s t true [n]=0):=by
 refine⟨fun h=>?_,fun h h2=>?_,fun h h2 h3=>?_,fun h h2 h3=>?_⟩<;>simp[bK,cB, *]
theorem qc{c:Nat}{s:Mt}{r:Rt}(T:TR c s r)(hc:c≤100000)(t:Int)(n:ByteArray):ai Tryz.prog 98 [aA r] (.cons (.ptr 0 [.d]) (.cons (ag t) (.cons (.val (.string n)) .nil)))
  fun av X κ=>av=ag (bK s t true [n])∧X=[aA r]∧κ=[]:=by
 have hfl:r.qB.length≤100000000:=by have:=T.cap.2;omega
 have hfz:=T.YD t
 have oF:=T.dX t
 obtain⟨e1,e2,e3,e4⟩:=ZT (s:=s) (t:=t) (n:=n)
 refine fb Tryz.func98 Tryz.ntmps98 [.tmp 6] fun w0 I0 F0 hF=>?_
 repeat first|refine n1 ?_|(first|refine rg 0 [0,1,2] [0,1,2] [] ?_|refine rg 1 [0,1,2] [0,1,2,10] [] ?_);simp[hF]
 refine(cU r t).go [(0,[])] (by simp[hF,aA,oF]) ?_;rintro av X κ ⟨rfl,rfl,rfl⟩;simp[hF,aA,oF]
 cases hv:val s.L t with
 | false =>
  repeat first|refine n1 ?_|(first|refine rg 2 [] [6] [] ?_|refine nc ?_);simp[hF,hv]
  (try refine nr ?_);(repeat first|refine aF ?_|refine aG ?_);refine ak.o [6] [0] [] ?_;simp[hF,an,aa,ah,aA,e1 hv]
 | true =>
  repeat first|refine n1 ?_|refine n2 ?_|(first|refine rg 3 [0,1,2] [0,1,13] [] ?_|refine nc ?_);simp[hF,hv]
  refine(jT n).go [] (by simp[hF,aA]) ?_;rintro av X κ ⟨rfl,rfl,rfl⟩;simp[hF,aA]
  cases hn:cS n with
  | false =>
   repeat first|refine n1 ?_|(first|refine rg 4 [] [6] [] ?_|refine nc ?_);simp[hF,hn]
   (try refine nr ?_);(repeat first|refine aF ?_|refine aG ?_);refine ak.o [6] [0] [] ?_;simp[hF,an,aa,ah,aA,e2 hv hn]
  | true =>
   repeat first|refine n1 ?_|refine n2 ?_|(first|refine rg 5 [0,1] [19] [] ?_|refine nc ?_);simp[hF,hn,aA]
   refine(Kk false r.qB t hfl).go [(0,[.d,.f 3])] (by simp[hF,aA]) ?_;rintro av X κ ⟨rfl,rfl,rfl⟩;simp[hF,aA]
   cases hf:qB s t with
   | false =>
    rw[hf] at hfz
    repeat first|refine n1 ?_|refine n2 ?_|(first|refine rg 7 [] [6] [] ?_|refine nc ?_);simp[hF,←hfz]
    (try refine nr ?_);(repeat first|refine aF ?_|refine aG ?_);refine ak.o [6] [0] [] ?_;simp[hF,an,aa,ah,aA,e4 hv hn hf]
   | true =>
    rw[hf] at hfz
    repeat first|refine n1 ?_|(first|refine rg 6 [] [6] [] ?_|refine nc ?_);simp[hF,←hfz]
    (try refine nr ?_);(repeat first|refine aF ?_|refine aG ?_);refine ak.o [6] [0] [] ?_;simp[hF,an,aa,ah,aA,e3 hv hn hf]
theorem vZ{c:Nat}{s:Mt}{r:Rt}(h:aR s)(T:TR c s r)(hc:c≤100000)(t:Int)(n:ByteArray)(act:List Int)(ex:Bool)(ha:act.length≤1000) :
  ai Tryz.prog 89 [aA r] (.cons (.ptr 0 [.d]) (.cons (ag t) (.cons (.val (.string n)) (.cons (.cA 1 (aj act) ex) .nil))))
  fun av X κ=>av=.cT (.cons (o6 (aX s t n act).1) (.cons (ag (aX s t n act).2) .nil))∧X=[aA r,.box true () (bR (aX s t n act).1)]∧κ=[]:=by
 have oF:=T.dX t
 refine fb Tryz.func89 Tryz.ntmps89 [.cell 8 133,.tmp 9] fun w0 I0 F0 hF=>?_
 repeat first|refine n1 ?_|(first|refine rg 0 [0,1,2,3] [0,1,2,3,8] [] ?_|refine rg 1 [0,1,2,3,8] [0,1,2,3,8,14] [] ?_);simp[hF]
 refine(cU r t).go [(0,[])] (by simp[hF,aA,oF]) ?_;rintro av X κ ⟨rfl,rfl,rfl⟩;simp[hF,aA,oF]
 cases hv:val s.L t with
 | false =>
  have he:aX s t n act=(Fo.none,1):=by simp[aX,cB,hv]
  repeat first|refine n1 ?_|(first|refine rg 2 [8] [8,9] [] ?_|refine nc ?_);simp[hF,hv]
  (try refine nr ?_);(repeat first|refine aF ?_|refine aG ?_);refine ak.o [8,9] [0,1] [] ?_;simp[hF,an,aa,ah,aA,he,bR,aK,Fo.none,En.none]
 | true =>
  repeat first|refine n1 ?_|refine n2 ?_|refine n3 ?_|(first|refine rg 3 [0,1,2,3,8] [0,1,2,3,8,10] [] ?_|refine nc ?_);simp[hF,hv]
  refine VS.pick [0,1,2,3,8,10] [0,1] (by simp[hF]) ?_;simp[hF]
  refine VS.rounds (fun m st=>∃(i:Nat),i+m=act.length∧(∀j,(hj:j<act.length)→j<i→iM s act[j]=true)∧st=⟨[(0,.ptr 0 [.d]),(1,ag t),(2,.val (.string n)),(3,.cA 1 (aj act) ex),(8,.ptr 1 [.d]),(10,ag i)],[aA r,.box true () (bR Fo.none)],[],[]⟩)
   ⟨act.length,0,by omega,(fun j hj h=>by omega),by simp[aA,bR,Fo.none,En.none,aK]⟩ ?_
  rintro m st ⟨i,hi,hall,rfl⟩
  repeat first|refine n1 ?_|(first|refine rg 4 [0,1,2,3,8,10] [0,1,2,3,8,10,19] [] ?_|refine nc ?_);simp[hF]
  refine⟨fun hlt=>?_,fun hge=>?_⟩
  ·have hil:i<act.length:=by omega
   have hn:=bP hil
   cases hm:iM s act[i] with
   | false =>
    have hb:qU s act=false:=by
     unfold qU
     cases hq:act.all (iM s) with
     | false=>rfl
     | true=>rw[List.all_eq_true.1 hq _ (List.getElem_mem hil)] at hm;cases hm
    have he:aX s t n act=(Fo.none,1):=by simp[aX,cB,hv,hb]
    repeat first|refine n1 ?_|refine n2 ?_|refine n3 ?_|refine rg 6 [0,1,2,3,8,10] [0,1,2,3,8,10,28] [] ?_;simp[hF,hn,hil]
    refine(vi T act[i]).go [(0,[])] (by simp[hF,aA,hm]) ?_;rintro av X κ ⟨rfl,rfl,rfl⟩;simp[hF,aA,hm]
    repeat first|refine n1 ?_|(first|refine rg 7 [8] [8,9] [] ?_|refine nc ?_);simp[hF,bR,aK,Fo.none,En.none]
    (try refine nr ?_);(repeat first|refine aF ?_|refine aG ?_);refine ak.o [8,9] [0,1] [] ?_;simp[hF,an,aa,ah,aA,he,bR,aK,Fo.none,En.none]
   | true =>
    repeat first|refine n1 ?_|refine n2 ?_|refine n3 ?_|refine rg 6 [0,1,2,3,8,10] [0,1,2,3,8,10,28] [] ?_;simp[hF,hn,hil]
    refine(vi T act[i]).go [(0,[])] (by simp[hF,aA,hm]) ?_;rintro av X κ ⟨rfl,rfl,rfl⟩;simp[hF,aA,hm]
    repeat first|refine n2 ?_|refine n4 ?_|refine n5 ?_|refine n6 ?_|(first|refine rg 5 [0,1,2,3,8,10] [0,1,2,3,8,10] [] ?_|refine nc ?_);simp[hF]
    refine aO.of [0,1,2,3,8,10] [0,1] (m-1) (by omega) (by simp[hF]) ?_
    refine⟨i+1,by omega,fun j hj hji=>?_,?_⟩
    ·by_cases e:j=i
     ·subst e;exact hm
     ·exact hall j hj (by omega)
    ·simp[aA,bR,Fo.none,En.none,aK]
     exact IntWalk.i64_in _ (by omega)
  ·obtain rfl:i=act.length:=by omega
   have hb:qU s act=true:=List.all_eq_true.2 fun x hx=>by
    obtain⟨j,hj,rfl⟩:=List.getElem_of_mem hx
    exact hall j hj hj
   repeat first|refine n1 ?_|refine n7 ?_|refine rg 8 [0,1,2,3,8] [0,1,2,3,8,32] [] ?_;simp[hF]
   refine(jT n).go [] (by simp[hF,aA]) ?_;rintro av X κ ⟨rfl,rfl,rfl⟩;simp[hF,aA]
   cases hn:cS n with
   | false =>
    have he:aX s t n act=(Fo.none,6):=by simp[aX,cB,hv,hb,hn]
    repeat first|refine n1 ?_|(first|refine rg 9 [8] [8,9] [] ?_|refine nc ?_);simp[hF,hn,bR,aK,Fo.none,En.none]
    (try refine nr ?_);(repeat first|refine aF ?_|refine aG ?_);refine ak.o [8,9] [0,1] [] ?_;simp[hF,an,aa,ah,aA,he,bR,aK,Fo.none,En.none]
   | true =>
    obtain⟨k,rfl,hk⟩:=bD hv
    have he:aX s k n act=toldOf (aY s (gK (aP s.L k) act) n):=by simp[aX,cB,hv,hb,hn];rfl
    have va:(aP s.L k).length≤1000:=h.ok.wf.base.elim fun _ B=>dW B hk (h.ok.wf.ord hk)
    rw[he]
    repeat first|refine n1 ?_|refine n2 ?_|(first|refine rg 10 [0,1,2,3,8] [8,9] [] ?_|refine nc ?_);simp[hF,hn]
    refine(tO h T k hk).go [(0,[])] (by simp[hF,aA]) ?_;rintro av X κ ⟨rfl,rfl,rfl⟩;simp[hF,aA]
    refine(tN T hc (aP s.L k) false va n act ex ha).go [(0,[])] (by simp[hF,aA,bR,aK,Fo.none,En.none]) ?_;rintro av X κ ⟨rfl,rfl,rfl⟩;simp[hF,aA,bR,aK,Fo.none,En.none]
    repeat refine n1 ?_
    (try refine nr ?_);(repeat first|refine aF ?_|refine aG ?_);refine ak.o [8,9] [0,1] [] ?_;simp[hF,an,aa,ah,aA,bR,aK]
theorem qa{c:Nat}{s:Mt}{r:Rt}(h:aR s)(T:TR c s r)(hc:c≤100000)(t:Int)(n:ByteArray) :
  ai Tryz.prog 89 [aA r] (.cons (.ptr 0 [.d]) (.cons (ag t) (.cons (.val (.string n)) (.cons (.bE 1) .nil))))
  fun av X κ=>av=.cT (.cons (o6 (aX s t n []).1) (.cons (ag (aX s t n []).2) .nil))∧X=[aA r,.box true () (bR (aX s t n []).1)]∧κ=[]:=ai.fy (vZ h T hc t n [] true (by simp))
theorem o7{s:Mt}{t:Int}{n:ByteArray}(hv:val s.L t=true)(hn:cS n=true):aX s t n []=toldOf (aJ s t n []):=by simp[aX,cB,hv,hn,qU]
theorem Dg{s:Mt}{t:Int}{dn:Bool}{ns:List ByteArray}(h:bK s t dn ns=0):val s.L t=true∧dn=true∧ns.all cS=true:=by
 unfold bK at h
 split at h
 ·cases h
 ·unfold cB at h
  split at h
  ·cases h
  ·rename_i h1
   split at h
   ·cases h
   ·rename_i h2
    simp only[Bool.not_eq_false,Bool.and_eq_true] at h1
    exact⟨h1.1,h1.2,by simpa using h2⟩
theorem Dh{s:Mt}{t:Int}{n:ByteArray}:bK s t false [n]=1:=by simp[bK,cB]
theorem Gu{c:Nat}{s:Mt}{r:Rt}(T:TR c s r)(hc:c≤100000)(t:Int)(n:ByteArray)(b v:Int):ai Tryz.prog 52 [aA r] (.cons (.ptr 0 [.d]) (.cons (ag t) (.cons (.val (.string n)) (.cons (ag b) (.cons (ag v) .nil)))))
  fun av X κ=>∃r',TR (c+1) (bt s t n b v).1 r'∧av=ag (bt s t n b v).2∧X=[aA r']∧κ=[(0,[.d])]:=by
 have hl:r.rows.length≤100000:=Nat.le_trans T.cap.1 hc
 have bad:(dw b&&fZ v)=false→bt s t n b v=(s,1):=fun hf=>by unfold bt;rw[hf,Dh];rfl
 have T1:=T.le (Nat.le_succ c)
 refine fb Tryz.func52 Tryz.ntmps52 [.tmp 10] fun w0 I0 F0 hF=>?_
 by_cases h1:b<0
 ·have he:=bad (by simp[dw];omega)
  repeat first|refine n1 ?_|(first|refine rg 0 [0,1,2,3,4] [0,1,2,3,4] [] ?_|refine rg 1 [0,1,2,3,4] [0,1,2,3,4,25] [(2,14),(6,18),(10,22)] ?_|refine rg 2 [] [10] [] ?_|refine nc ?_);simp[hF,h1]
  (try refine nr ?_);(repeat first|refine aF ?_|refine aG ?_);refine ak.o [10] [0] [(0,[.d])] ?_;simp[hF,an,aa,ah,aA,he]
  exact⟨r,T1,rfl,rfl,rfl⟩
 by_cases h2:1000000<b
 ·have he:=bad (by simp[dw];omega)
  repeat first|refine n1 ?_|(first|refine rg 0 [0,1,2,3,4] [0,1,2,3,4] [] ?_|refine rg 1 [0,1,2,3,4] [0,1,2,3,4,25] [(2,14),(6,18),(10,22)] ?_|refine rg 2 [] [10] [] ?_|refine nc ?_);simp[hF,h1,h2]
  (try refine nr ?_);(repeat first|refine aF ?_|refine aG ?_);refine ak.o [10] [0] [(0,[.d])] ?_;simp[hF,an,aa,ah,aA,he]
  exact⟨r,T1,rfl,rfl,rfl⟩
 by_cases h3:v<0
 ·have he:=bad (by simp[fZ];omega)
  repeat first|refine n1 ?_|(first|refine rg 0 [0,1,2,3,4] [0,1,2,3,4] [] ?_|refine rg 1 [0,1,2,3,4] [0,1,2,3,4,25] [(2,14),(6,18),(10,22)] ?_|refine rg 2 [] [10] [] ?_|refine nc ?_);simp[hF,h1,h2,h3]
  (try refine nr ?_);(repeat first|refine aF ?_|refine aG ?_);refine ak.o [10] [0] [(0,[.d])] ?_;simp[hF,an,aa,ah,aA,he]
  exact⟨r,T1,rfl,rfl,rfl⟩
 by_cases h4:2<v
 ·have he:=bad (by simp[fZ];omega)
  repeat first|refine n1 ?_|(first|refine rg 0 [0,1,2,3,4] [0,1,2,3,4] [] ?_|refine rg 1 [0,1,2,3,4] [0,1,2,3,4,25] [(2,14),(6,18),(10,22)] ?_|refine rg 2 [] [10] [] ?_|refine nc ?_);simp[hF,h1,h2,h3,h4]
  (try refine nr ?_);(repeat first|refine aF ?_|refine aG ?_);refine ak.o [10] [0] [(0,[.d])] ?_;simp[hF,an,aa,ah,aA,he]
  exact⟨r,T1,rfl,rfl,rfl⟩
 have hf:(dw b&&fZ v)=true:=by simp[dw,fZ];omega
 repeat first|refine n1 ?_|refine n2 ?_|(first|refine rg 0 [0,1,2,3,4] [0,1,2,3,4] [] ?_|refine rg 1 [0,1,2,3,4] [0,1,2,3,4,25] [(2,14),(6,18),(10,22)] ?_|refine rg 3 [0,1,2,3,4] [0,1,2,3,4,11] [] ?_|refine nc ?_);simp[hF,h1,h2,h3,h4]
 refine(qc T hc t n).go [(0,[])] (by simp[hF,aA]) ?_;rintro av X κ ⟨rfl,rfl,rfl⟩;simp[hF,aA]
 by_cases h0:bK s t true [n]=0
 ·have he:bt s t n b v=(dH s (t,-1) n ⟨b,v,t,n⟩,0):=by unfold bt;rw[hf,if_pos h0]
  repeat first|refine n1 ?_|refine n2 ?_|(first|refine rg 4 [0,1,2,3,4,11] [0,1,2,3,4,11,31] [] ?_|refine rg 6 [0,1,2,3,4] [] [] ?_|refine nc ?_);simp[hF,h0]
  refine(nL r hl t (-1) n ⟨b,v,t,n⟩).go [(0,[])] (by simp[hF,aA]) ?_;rintro av X κ ⟨rfl,rfl,rfl⟩;simp[hF,aA]
  repeat first|refine n1 ?_|refine rg 7 [] [10] [] ?_;simp[hF]
  (try refine nr ?_);(repeat first|refine aF ?_|refine aG ?_);refine ak.o [10] [0] [(0,[.d])] ?_;simp[hF,an,aa,ah,aA,he]
  exact⟨_,T.put _ _ _,rfl,rfl,rfl⟩
 ·have he:bt s t n b v=(s,bK s t true [n]):=by unfold bt;rw[hf,if_neg h0]
  repeat first|refine n1 ?_|(first|refine rg 4 [0,1,2,3,4,11] [0,1,2,3,4,11,31] [] ?_|refine rg 5 [11] [10] [] ?_|refine nc ?_);simp[hF,h0]
  (try refine nr ?_);(repeat first|refine aF ?_|refine aG ?_);refine ak.o [10] [0] [(0,[.d])] ?_;simp[hF,an,aa,ah,aA,he]
  exact⟨r,T1,rfl,rfl,rfl⟩
theorem Gv{c:Nat}{s:Mt}{r:Rt}(T:TR c s r)(hc:c≤100000)(m t:Int)(n:ByteArray)(b:Int):ai Tryz.prog 53 [aA r] (.cons (.ptr 0 [.d]) (.cons (ag m) (.cons (ag t) (.cons (.val (.string n)) (.cons (ag b) .nil)))))
  fun av X κ=>∃r',TR (c+1) (cC s m t n b).1 r'∧av=ag (cC s m t n b).2∧X=[aA r']∧κ=[(0,[.d])]:=by
 have hl:r.rows.length≤100000:=Nat.le_trans T.cap.1 hc
 have oF:=T.dX t
 have bad:(val s.L t&&(iM s m&&dw b))=false→cC s m t n b=(s,1):=fun hf=>by
  unfold cC cB;rw[hf];rfl
 have T1:=T.le (Nat.le_succ c)
 refine fb Tryz.func53 Tryz.ntmps53 [.tmp 10] fun w0 I0 F0 hF=>?_
 repeat first|refine n1 ?_|(first|refine rg 0 [0,1,2,3,4] [0,1,2,3,4] [] ?_|refine rg 1 [0,1,2,3,4] [0,1,2,3,4,28] [(4,15),(10,21),(14,25)] ?_);simp[hF]
 cases hm:iM s m with
 | false =>
  have he:=bad (by simp[hm])
  refine(vi T m).go [(0,[])] (by simp[hF,aA,hm]) ?_;rintro av X κ ⟨rfl,rfl,rfl⟩;simp[hF,aA,hm]
  repeat first|refine n1 ?_|(first|refine rg 2 [] [10] [] ?_|refine nc ?_);simp[hF]
  (try refine nr ?_);(repeat first|refine aF ?_|refine aG ?_);refine ak.o [10] [0] [(0,[.d])] ?_;simp[hF,an,aa,ah,aA,he]
  exact⟨r,T1,rfl,rfl,rfl⟩
 | true =>
  refine(vi T m).go [(0,[])] (by simp[hF,aA,hm]) ?_;rintro av X κ ⟨rfl,rfl,rfl⟩;simp[hF,aA,hm]
  cases hv:val s.L t with
  | false =>
   have he:=bad (by simp[hv])
   refine(cU r t).go [(0,[])] (by simp[hF,aA,oF,hv]) ?_;rintro av X κ ⟨rfl,rfl,rfl⟩;simp[hF,aA,oF,hv]
   repeat first|refine n1 ?_|(first|refine rg 2 [] [10] [] ?_|refine nc ?_);simp[hF]
   (try refine nr ?_);(repeat first|refine aF ?_|refine aG ?_);refine ak.o [10] [0] [(0,[.d])] ?_;simp[hF,an,aa,ah,aA,he]
   exact⟨r,T1,rfl,rfl,rfl⟩
  | true =>
   by_cases h1:b<0
   ·have he:=bad (by simp[dw];omega)
    refine(cU r t).go [(0,[])] (by simp[hF,aA,oF,hv,h1]) ?_;rintro av X κ ⟨rfl,rfl,rfl⟩;simp[hF,aA,oF,hv,h1]
    repeat first|refine n1 ?_|(first|refine rg 2 [] [10] [] ?_|refine nc ?_);simp[hF]
    (try refine nr ?_);(repeat first|refine aF ?_|refine aG ?_);refine ak.o [10] [0] [(0,[.d])] ?_;simp[hF,an,aa,ah,aA,he]
    exact⟨r,T1,rfl,rfl,rfl⟩
   by_cases h2:1000000<b
   ·have he:=bad (by simp[dw];omega)
    refine(cU r t).go [(0,[])] (by simp[hF,aA,oF,hv,h1,h2]) ?_;rintro av X κ ⟨rfl,rfl,rfl⟩;simp[hF,aA,oF,hv,h1,h2]
    repeat first|refine n1 ?_|(first|refine rg 2 [] [10] [] ?_|refine nc ?_);simp[hF]
    (try refine nr ?_);(repeat first|refine aF ?_|refine aG ?_);refine ak.o [10] [0] [(0,[.d])] ?_;simp[hF,an,aa,ah,aA,he]
    exact⟨r,T1,rfl,rfl,rfl⟩
   have hf:dw b=true:=by simp[dw];omega
   refine(cU r t).go [(0,[])] (by simp[hF,aA,oF,hv,h1,h2]) ?_;rintro av X κ ⟨rfl,rfl,rfl⟩;simp[hF,aA,oF,hv,h1,h2]
   repeat first|refine n1 ?_|refine n2 ?_|(first|refine rg 3 [0,1,2,3,4] [0,1,2,3,4,31] [] ?_|refine nc ?_);simp[hF]
   refine(jT n).go [] (by simp[hF,aA]) ?_;rintro av X κ ⟨rfl,rfl,rfl⟩;simp[hF,aA]
   cases hn:cS n with
   | false =>
    have he:cC s m t n b=(s,6):=by simp[cC,cB,hv,hm,hf,hn]
    repeat first|refine n1 ?_|(first|refine rg 4 [] [10] [] ?_|refine nc ?_);simp[hF,hn]
    (try refine nr ?_);(repeat first|refine aF ?_|refine aG ?_);refine ak.o [10] [0] [(0,[.d])] ?_;simp[hF,an,aa,ah,aA,he]
    exact⟨r,T1,rfl,rfl,rfl⟩
   | true =>
    have he:cC s m t n b=(dH s (t,m) n ⟨b,0,t,n⟩,0):=by simp[cC,cB,hv,hm,hf,hn]
    repeat first|refine n1 ?_|refine n2 ?_|(first|refine rg 5 [0,1,2,3,4] [] [] ?_|refine nc ?_);simp[hF,hn]
    refine(nL r hl t m n ⟨b,0,t,n⟩).go [(0,[])] (by simp[hF,aA]) ?_;rintro av X κ ⟨rfl,rfl,rfl⟩;simp[hF,aA]
    repeat first|refine n1 ?_|refine rg 6 [] [10] [] ?_;simp[hF]
    (try refine nr ?_);(repeat first|refine aF ?_|refine aG ?_);refine ak.o [10] [0] [(0,[.d])] ?_;simp[hF,an,aa,ah,aA,he]
    exact⟨_,T.put _ _ _,rfl,rfl,rfl⟩
theorem Ap{c:Nat}{s:Mt}{r:Rt}(h:aR s)(T:TR c s r)(hc:c≤100000)(t:Int)(n:ByteArray):ai Tryz.prog 54 [aA r] (.cons (.ptr 0 [.d]) (.cons (ag t) (.cons (.val (.string n)) .nil)))
  fun av X κ=>∃r',TR (c+1) (cq s t n).1 r'∧av=ag (cq s t n).2∧X=[aA r']∧κ=[(0,[.d])]:=by
 have hl:r.rows.length≤100000:=Nat.le_trans T.cap.1 hc
 have T1:=T.le (Nat.le_succ c)
 refine fb Tryz.func54 Tryz.ntmps54 [.tmp 6] fun w0 I0 F0 hF=>?_
 repeat first|refine n1 ?_|(first|refine rg 0 [0,1,2] [0,1,2] [] ?_|refine rg 1 [0,1,2] [0,1,2,7] [] ?_);simp[hF]
 refine(qc T hc t n).go [(0,[])] (by simp[hF,aA]) ?_;rintro av X κ ⟨rfl,rfl,rfl⟩;simp[hF,aA]
 by_cases h0:bK s t true [n]=0
 ·obtain⟨hv,_,hn⟩:=Dg h0
  have Di:=qa h T hc t n
  rw[o7 hv (by simpa using hn)] at Di
  repeat first|refine n1 ?_|refine n2 ?_|(first|refine rg 2 [0,1,2,7] [0,1,2,7,15] [] ?_|refine rg 4 [0,1,2] [0,1,2,9] [] ?_|refine nc ?_);simp[hF,h0]
  cases hb:(aJ s t n []).2 with
  | false =>
   have he:cq s t n=(s,3):=by simp[cq,h0,hb]
   have ht:toldOf (aJ s t n [])=(Fo.none,3):=by simp[toldOf,hb]
   rw[ht] at Di
   refine(Di).go [(0,[])] (by simp[hF,aA,bR,aK,Fo.none,En.none]) ?_;rintro av X κ ⟨rfl,rfl,rfl⟩;simp[hF,aA,bR,aK,Fo.none,En.none]
   repeat first|refine n1 ?_|(first|refine rg 5 [0,1,2,9] [0,1,2,9,25] [] ?_|refine rg 6 [9] [6] [] ?_|refine nc ?_);simp[hF]
   (try refine nr ?_);(repeat first|refine aF ?_|refine aG ?_);refine ak.o [6] [0] [(0,[.d])] ?_;simp[hF,an,aa,ah,aA,he]
   exact⟨r,T1,rfl,rfl,rfl⟩
  | true =>
   have he:cq s t n=(dH s (t,-1) n ⟨-1,0,t,n⟩,0):=by simp[cq,h0,hb]
   have ht:toldOf (aJ s t n [])=((aJ s t n []).1,0):=by simp[toldOf,hb]
   rw[ht] at Di
   refine(Di).go [(0,[])] (by simp[hF,aA,bR,aK]) ?_;rintro av X κ ⟨rfl,rfl,rfl⟩;simp[hF,aA,bR,aK]
   repeat first|refine n1 ?_|refine n2 ?_|(first|refine rg 5 [0,1,2,9] [0,1,2,9,25] [] ?_|refine rg 7 [0,1,2] [] [] ?_|refine nc ?_);simp[hF]
   refine(nL r hl t (-1) n ⟨-1,0,t,n⟩).go [(0,[])] (by simp[hF,aA]) ?_;rintro av X κ ⟨rfl,rfl,rfl⟩;simp[hF,aA]
   repeat first|refine n1 ?_|refine rg 8 [] [6] [] ?_;simp[hF]
   (try refine nr ?_);(repeat first|refine aF ?_|refine aG ?_);refine ak.o [6] [0] [(0,[.d])] ?_;simp[hF,an,aa,ah,aA,he]
   exact⟨_,T.put _ _ _,rfl,rfl,rfl⟩
 ·have he:cq s t n=(s,bK s t true [n]):=by simp[cq,h0]
  repeat first|refine n1 ?_|(first|refine rg 2 [0,1,2,7] [0,1,2,7,15] [] ?_|refine rg 3 [7] [6] [] ?_|refine nc ?_);simp[hF,h0]
  (try refine nr ?_);(repeat first|refine aF ?_|refine aG ?_);refine ak.o [6] [0] [(0,[.d])] ?_;simp[hF,an,aa,ah,aA,he]
  exact⟨r,T1,rfl,rfl,rfl⟩
theorem Gw{c:Nat}{s:Mt}{r:Rt}(T:TR c s r)(hc:c≤100000)(t:Int):ai Tryz.prog 59 [aA r] (.cons (.ptr 0 [.d]) (.cons (ag t) .nil))
  fun av X κ=>∃r',TR (c+1) (cD s t).1 r'∧av=ag (cD s t).2∧X=[aA r']∧κ=[(0,[.d])]:=by
 have oF:=T.dX t
 have T1:=T.le (Nat.le_succ c)
 have dD:=fK r.qB t
 have qy:=T.cap.2
 have b1:(r.qB.length+1)*8≤140737488355328:=by omega
 have b2:r.qB.length+1≤9223372036854775807:=by omega
 have hmid:=gU (r.qB++[t])
 refine fb Tryz.func59 Tryz.ntmps59 [.tmp 4] fun w0 I0 F0 hF=>?_
 repeat first|refine n1 ?_|(first|refine rg 0 [0,1] [0,1] [] ?_|refine rg 1 [0,1] [0,1,8] [] ?_);simp[hF]
 refine(cU r t).go [(0,[])] (by simp[hF,aA,oF]) ?_;rintro av X κ ⟨rfl,rfl,rfl⟩;simp[hF,aA,oF]
 cases hv:val s.L t with
 | false =>
  have he:cD s t=(s,1):=by simp[cD,hv]
  repeat first|refine n1 ?_|(first|refine rg 2 [] [4] [] ?_|refine nc ?_);simp[hF,hv]
  (try refine nr ?_);(repeat first|refine aF ?_|refine aG ?_);refine ak.o [4] [0] [(0,[.d])] ?_;simp[hF,an,aa,ah,aA,he]
  exact⟨r,T1,rfl,rfl,rfl⟩
 | true =>
  have he:cD s t=({ s with fz:=cz s.fz t true },0):=by simp[cD,hv]
  repeat first|refine n1 ?_|refine n2 ?_|refine nc ?_;simp[hF,hv]
  refine eP 0 [.d,.f 3] ?_;simp[hF,St.lift,AV.lift,cJ,cK,dV,isNode,aA]
  repeat first|refine n1 ?_|(first|refine rg 3 [0,1] [] [] ?_|refine rg 4 [] [4] [] ?_);simp[hF,aA,dD,b1,b2,hmid]
  (try refine nr ?_);(repeat first|refine aF ?_|refine aG ?_);refine ak.o [4] [0] [(0,[.d])] ?_;simp[hF,an,aa,ah,aA,he]
  exact⟨_,T.freeze t,rfl,rfl,rfl⟩
theorem sx{c:Nat}{s:Mt}{r:Rt}(T:TR c s r)(k:Key)(n:ByteArray):iO s k n=none↔bF r.rows (k,n)=none:=by rw[T.rows]
theorem Gx{c:Nat}{s:Mt}{r:Rt}(h:aR s)(T:TR c s r)(hc:c≤100000)(t:Int)(n:ByteArray):ai Tryz.prog 55 [aA r] (.cons (.ptr 0 [.d]) (.cons (ag t) (.cons (.val (.string n)) .nil)))
  fun av X κ=>∃r',TR (c+1) (bf s t n).1 r'∧av=ag (bf s t n).2∧X=[aA r']∧κ=[(0,[.d])]:=by
 have hl:r.rows.length≤100000:=Nat.le_trans T.cap.1 hc
 have T1:=T.le (Nat.le_succ c)
 refine fb Tryz.func55 Tryz.ntmps55 [.tmp 6] fun w0 I0 F0 hF=>?_
 repeat first|refine n1 ?_|(first|refine rg 0 [0,1,2] [0,1,2] [] ?_|refine rg 1 [0,1,2] [0,1,2,7] [] ?_);simp[hF]
 refine(qc T hc t n).go [(0,[])] (by simp[hF,aA]) ?_;rintro av X κ ⟨rfl,rfl,rfl⟩;simp[hF,aA]
 by_cases h0:bK s t true [n]=0
 ·cases hg:bF r.rows ((t,-1),n) with
  | none =>
   have hp:=jY hg
   have he:bf s t n=(s,3):=by unfold bf;rw[if_neg (by simp[h0]),if_pos ((sx T _ _).2 hg)]
   repeat first|refine n1 ?_|refine n2 ?_|(first|refine rg 2 [0,1,2,7] [0,1,2,7,14] [] ?_|refine rg 4 [0,1,2] [0,8] [] ?_|refine nc ?_);simp[hF,h0]
   refine(gA r hl t (-1) n).go [(0,[])] (by simp[hF,aA,hp]) ?_;rintro av X κ ⟨rfl,rfl,rfl⟩;simp[hF,aA,hp]
   repeat first|refine n1 ?_|(first|refine rg 5 [0,8] [0,8,21] [] ?_|refine rg 6 [] [6] [] ?_|refine nc ?_);simp[hF]
   (try refine nr ?_);(repeat first|refine aF ?_|refine aG ?_);refine ak.o [6] [0] [(0,[.d])] ?_;simp[hF,an,aa,ah,aA,he]
   exact⟨r,T1,rfl,rfl,rfl⟩
  | some e =>
   obtain⟨hp,hi,hat⟩:=jX hg
   have he:bf s t n=(iV s (t,-1) n,0):=by unfold bf;rw[if_neg (by simp[h0]),if_neg (fun q=>by rw[(sx T _ _).1 q] at hg;cases hg)]
   have Q3:=V5 hg
   repeat first|refine n1 ?_|refine n2 ?_|(first|refine rg 2 [0,1,2,7] [0,1,2,7,14] [] ?_|refine rg 4 [0,1,2] [0,8] [] ?_|refine nc ?_);simp[hF,h0]
   refine(gA r hl t (-1) n).go [(0,[])] (by simp[hF,aA,hp]) ?_;rintro av X κ ⟨rfl,rfl,rfl⟩;simp[hF,aA,hp]
   generalize eB r.rows ((t,-1),n)=i at *
   have h0i:¬(i:Int)<0:=by omega
   have hw:IntKind.i64.wrap ((i:Int)+1)=((i+1:Nat):Int):=by rw[IntWalk.i64_in _ (by omega)];rfl
   have hle:((i+1:Nat):Int)≤r.rows.length:=by omega
   have hle2:i+1≤r.rows.length:=by omega
   have ZU:0≤(i:Int)+1:=by omega
   have uq:=Dc r.rows 0 i
   have hm2:=Dc r.rows (i+1) (r.rows.length-(i+1))
   have b1:i*72≤140737488355328:=by omega
   have b2:i≤9223372036854775807:=by omega
   have b3:(i+(r.rows.length-(i+1)))*72≤140737488355328:=by omega
   have b4:i+(r.rows.length-(i+1))≤9223372036854775807:=by omega
   rw[List.drop_zero] at uq
   obtain⟨P,hP⟩:∃P,P=r.rows.take i:=⟨_,rfl⟩
   obtain⟨S,hS⟩:∃S,S=(r.rows.drop (i+1)).take (r.rows.length-(i+1)):=⟨_,rfl⟩
   have hS':r.rows.drop (i+1)=S:=by rw[hS,List.take_of_length_le (by simp)]
   rw[←hP] at uq
   rw[←hS] at hm2
   rw[←hP,hS'] at Q3
   have dD:=Q0 P S
   rw[←Q3] at dD
   have hil:i≤r.rows.length:=by omega
   have hPl:P.length=i:=by rw[hP,List.length_take];omega
   have hSl:S.length=r.rows.length-(i+1):=by rw[←hS',List.length_drop]
   have hPm:(jl P).mid 0 i=jl P:=aV _ _ (by simp[hPl])
   have hdl:(mV r.rows ((t,-1),n)).length=i+(r.rows.length-(i+1)):=by rw[Q3,List.length_append,hPl,hSl]
   have tg:(jl (mV r.rows ((t,-1),n))).mid 0 (i+(r.rows.length-(i+1)))=jl (mV r.rows ((t,-1),n)):=aV _ _ (by simp[hdl])
   repeat first|refine n1 ?_|refine n2 ?_|(first|refine rg 5 [0,8] [0,8,21] [] ?_|(refine dr 7 256 [0,8] [] [] [⟨0,1,4194304,5⟩,⟨0,0,8388608,4⟩,⟨0,1,16777216,5⟩,⟨4,16777216,33554432,5⟩,⟨8,33554432,67108864,5⟩,⟨16,67108864,134217728,6⟩,⟨0,256,268435456,5⟩,⟨96,402653184,536870912,5⟩,⟨130,545259520,1073741824,0⟩,⟨0,1,2147483648,5⟩,⟨512,2147483648,4294967296,5⟩,⟨1024,4294967296,8589934592,5⟩,⟨2048,8589934592,17179869184,6⟩,⟨0,256,34359738368,5⟩,⟨8192,34359738368,68719476736,5⟩,⟨20480,85899345920,137438953472,5⟩,⟨33024,138512695296,274877906944,0⟩,⟨131071,4194304,549755813888,5⟩,⟨262143,549755813888,1099511627776,5⟩,⟨393215,1374389534720,0,0⟩] (.take 0 (.take 2 (.take 3 (.take 4 (.take 5 (.take 6 (.take 7 (.take 9 (.take 10 (.take 11 (.take 12 (.take 13 (.take 14 (.take 15 (.fork (.alt 1 (.fork (.alt 8 (.fork (.alt 16 (.take 17 (.take 18 (.fork (.alt 19 (.done) (.nil))))) (.nil))) (.nil))) (.nil))))))))))))))))) (.run [0,2,3,4,5,6,7,9,10,11,12,13,14,15,1] (.eS 8 (.run [8,16,17,18,19] (.done)))) ?_;simp only[nD])|refine rg 8 [] [6] [] ?_|refine nc ?_);simp[hF,h0i,aA,hw,hle,hle2,ZU,uq,hm2,b1,b2,b3,b4,dD,hil,hPm,tg]
   (try refine nr ?_);(repeat first|refine aF ?_|refine aG ?_);refine ak.o [6] [0] [(0,[.d])] ?_;simp[hF,an,aa,ah,aA,he]
   exact⟨_,(T.del h (t,-1) n).le (Nat.le_succ c),rfl,rfl,rfl⟩
 ·have he:bf s t n=(s,bK s t true [n]):=by simp[bf,h0]
  repeat first|refine n1 ?_|(first|refine rg 2 [0,1,2,7] [0,1,2,7,14] [] ?_|refine rg 3 [7] [6] [] ?_|refine nc ?_);simp[hF,h0]
  (try refine nr ?_);(repeat first|refine aF ?_|refine aG ?_);refine ak.o [6] [0] [(0,[.d])] ?_;simp[hF,an,aa,ah,aA,he]
  exact⟨r,T1,rfl,rfl,rfl⟩
theorem V7{s:Mt}{t:Int}{n m:ByteArray}:(val s.L t=false→bK s t true [n,m]=1)∧(val s.L t=true→(cS n&&cS m)=false→bK s t true [n,m]=6) ∧
  (val s.L t=true→(cS n&&cS m)=true→qB s t=true→bK s t true [n,m]=13)∧(val s.L t=true→(cS n&&cS m)=true→qB s t=false→bK s t true [n,m]=0):=by
 refine⟨fun h=>?_,fun h h2=>?_,fun h h2 h3=>?_,fun h h2 h3=>?_⟩
 ·simp[bK,cB, *]
 ·have:([n,m].all cS)=false:=by simpa using h2
  unfold bK cB;rw[h,this];simp
 ·have:([n,m].all cS)=true:=by simpa using h2
  unfold bK cB;rw[h,this,h3];simp
 ·have:([n,m].all cS)=true:=by simpa using h2
  unfold bK cB;rw[h,this,h3];simp
theorem Lt{c:Nat}{s:Mt}{r:Rt}(h:aR s)(T:TR c s r)(hc:c≤100000)(t:Int)(n old:ByteArray):ai Tryz.prog 56 [aA r] (.cons (.ptr 0 [.d]) (.cons (ag t) (.cons (.val (.string n)) (.cons (.val (.string old)) .nil))))
  fun av X κ=>∃r',TR (c+1) (aliasOf s t n old).1 r'∧av=ag (aliasOf s t n old).2∧X=[aA r']∧κ=[(0,[.d])]:=by
 have hl:r.rows.length≤100000:=Nat.le_trans T.cap.1 hc
 have hfl:r.qB.length≤100000000:=by have:=T.cap.2;omega
 have hfz:=T.YD t
 have oF:=T.dX t
 have T1:=T.le (Nat.le_succ c)
 obtain⟨e1,e2,e3,e4⟩:=V7 (s:=s) (t:=t) (n:=n) (m:=old)
 have vN:∀e,e≠0→bK s t true [n,old]=e→aliasOf s t n old=(s,e):=fun e h1 h2=>by simp[aliasOf,h2,h1]
 refine fb Tryz.func56 Tryz.ntmps56 [.tmp 8] fun w0 I0 F0 hF=>?_
 repeat first|refine n1 ?_|(first|refine rg 0 [0,1,2,3] [0,1,2,3] [] ?_|refine rg 1 [0,1,2,3] [0,1,2,3,14] [] ?_);simp[hF]
 refine(cU r t).go [(0,[])] (by simp[hF,aA,oF]) ?_;rintro av X κ ⟨rfl,rfl,rfl⟩;simp[hF,aA,oF]
 cases hv:val s.L t with
 | false =>
  have he:=vN 1 (by decide) (e1 hv)
  repeat first|refine n1 ?_|(first|refine rg 2 [] [8] [] ?_|refine nc ?_);simp[hF,hv]
  (try refine nr ?_);(repeat first|refine aF ?_|refine aG ?_);refine ak.o [8] [0] [(0,[.d])] ?_;simp[hF,an,aa,ah,aA,he]
  exact⟨r,T1,rfl,rfl,rfl⟩
 | true =>
  repeat first|refine n1 ?_|refine n2 ?_|(first|refine rg 3 [0,1,2,3] [0,1,2,3,22] [(3,18)] ?_|refine nc ?_);simp[hF,hv]
  cases hn:cS n with
  | false =>
   have he:=vN 6 (by decide) (e2 hv (by simp[hn]))
   refine(jT n).go [] (by simp[hF,aA,hn]) ?_;rintro av X κ ⟨rfl,rfl,rfl⟩;simp[hF,aA,hn]
   repeat first|refine n1 ?_|(first|refine rg 4 [] [8] [] ?_|refine nc ?_);simp[hF]
   (try refine nr ?_);(repeat first|refine aF ?_|refine aG ?_);refine ak.o [8] [0] [(0,[.d])] ?_;simp[hF,an,aa,ah,aA,he]
   exact⟨r,T1,rfl,rfl,rfl⟩
  | true =>
   refine(jT n).go [] (by simp[hF,aA,hn]) ?_;rintro av X κ ⟨rfl,rfl,rfl⟩;simp[hF,aA,hn]
   cases ho:cS old with
   | false =>
    have he:=vN 6 (by decide) (e2 hv (by simp[ho]))
    refine(jT old).go [] (by simp[hF,aA,ho]) ?_;rintro av X κ ⟨rfl,rfl,rfl⟩;simp[hF,aA,ho]
    repeat first|refine n1 ?_|(first|refine rg 4 [] [8] [] ?_|refine nc ?_);simp[hF]
    (try refine nr ?_);(repeat first|refine aF ?_|refine aG ?_);refine ak.o [8] [0] [(0,[.d])] ?_;simp[hF,an,aa,ah,aA,he]
    exact⟨r,T1,rfl,rfl,rfl⟩
   | true =>
    refine(jT old).go [] (by simp[hF,aA,ho]) ?_;rintro av X κ ⟨rfl,rfl,rfl⟩;simp[hF,aA,ho]
    repeat first|refine n1 ?_|refine n2 ?_|(first|refine rg 5 [0,1,2,3] [0,1,2,3,28] [] ?_|refine nc ?_);simp[hF,aA]
    refine(Kk false r.qB t hfl).go [(0,[.d,.f 3])] (by simp[hF,aA]) ?_;rintro av X κ ⟨rfl,rfl,rfl⟩;simp[hF,aA]
    cases hf:qB s t with
    | true =>
     rw[hf] at hfz
     have he:=vN 13 (by decide) (e3 hv (by simp[hn,ho]) hf)
     repeat first|refine n1 ?_|(first|refine rg 6 [] [8] [] ?_|refine nc ?_);simp[hF,←hfz]
     (try refine nr ?_);(repeat first|refine aF ?_|refine aG ?_);refine ak.o [8] [0] [(0,[.d])] ?_;simp[hF,an,aa,ah,aA,he]
     exact⟨r,T1,rfl,rfl,rfl⟩
    | false =>
     rw[hf] at hfz
     have h0:=e4 hv (by simp[hn,ho]) hf
     have Di:=qa h T hc t old
     rw[o7 hv ho] at Di
     repeat first|refine n1 ?_|refine n2 ?_|(first|refine rg 7 [0,1,2,3] [0,1,2,9,10] [] ?_|refine nc ?_);simp[hF,←hfz]
     cases hb:(aJ s t old []).2 with
     | false =>
      have he:aliasOf s t n old=(s,3):=by simp[aliasOf,h0,hb]
      have ht:toldOf (aJ s t old [])=(Fo.none,3):=by simp[toldOf,hb]
      rw[ht] at Di
      refine(Di).go [(0,[])] (by simp[hF,aA,bR,aK,Fo.none,En.none]) ?_;rintro av X κ ⟨rfl,rfl,rfl⟩;simp[hF,aA,bR,aK,Fo.none,En.none]
      repeat first|refine n1 ?_|(first|refine rg 8 [0,1,2,9,10] [0,1,2,9,10,37] [] ?_|refine rg 9 [10] [8] [] ?_|refine nc ?_);simp[hF]
      (try refine nr ?_);(repeat first|refine aF ?_|refine aG ?_);refine ak.o [8] [0] [(0,[.d])] ?_;simp[hF,an,aa,ah,aA,he]
      exact⟨r,T1,rfl,rfl,rfl⟩
     | true =>
      have he:aliasOf s t n old=(dH s (t,-1) n (aJ s t old []).1.e,0):=by simp[aliasOf,h0,hb]
      have ht:toldOf (aJ s t old [])=((aJ s t old []).1,0):=by simp[toldOf,hb]
      rw[ht] at Di
      refine(Di).go [(0,[])] (by simp[hF,aA,bR,aK]) ?_;rintro av X κ ⟨rfl,rfl,rfl⟩;simp[hF,aA,bR,aK]
      repeat first|refine n1 ?_|refine n2 ?_|(first|refine rg 8 [0,1,2,9,10] [0,1,2,9,10,37] [] ?_|refine rg 10 [0,1,2,9] [] [] ?_|refine nc ?_);simp[hF,bR,aK]
      refine(nL r hl t (-1) n (aJ s t old []).1.e).go [(0,[])] (by simp[hF,aA]) ?_;rintro av X κ ⟨rfl,rfl,rfl⟩;simp[hF,aA]
      repeat first|refine n1 ?_|refine rg 11 [] [8] [] ?_;simp[hF]
      (try refine nr ?_);(repeat first|refine aF ?_|refine aG ?_);refine ak.o [8] [0] [(0,[.d])] ?_;simp[hF,an,aa,ah,aA,he]
      exact⟨_,T.put _ _ _,rfl,rfl,rfl⟩
theorem Q4{c:Nat}{s:Mt}{r:Rt}(h:aR s)(T:TR c s r)(hc:c≤100000)(t:Int)(n:ByteArray)(v:Int):ai Tryz.prog 57 [aA r] (.cons (.ptr 0 [.d]) (.cons (ag t) (.cons (.val (.string n)) (.cons (ag v) .nil))))
  fun av X κ=>∃r',TR (c+1) (eD s t n v).1 r'∧av=ag (eD s t n v).2∧X=[aA r']∧κ=[(0,[.d])]:=by
 have hl:r.rows.length≤100000:=Nat.le_trans T.cap.1 hc
 have bad:fZ v=false→eD s t n v=(s,1):=fun hf=>by unfold eD;rw[hf,Dh];rfl
 have T1:=T.le (Nat.le_succ c)
 refine fb Tryz.func57 Tryz.ntmps57 [.tmp 8] fun w0 I0 F0 hF=>?_
 by_cases h3:v<0
 ·have he:=bad (by simp[fZ];omega)
  repeat first|refine n1 ?_|(first|refine rg 0 [0,1,2,3] [0,1,2,3] [] ?_|refine rg 1 [0,1,2,3] [0,1,2,3,18] [(2,15)] ?_|refine rg 2 [] [8] [] ?_|refine nc ?_);simp[hF,h3]
  (try refine nr ?_);(repeat first|refine aF ?_|refine aG ?_);refine ak.o [8] [0] [(0,[.d])] ?_;simp[hF,an,aa,ah,aA,he]
  exact⟨r,T1,rfl,rfl,rfl⟩
 by_cases h4:2<v
 ·have he:=bad (by simp[fZ];omega)
  repeat first|refine n1 ?_|(first|refine rg 0 [0,1,2,3] [0,1,2,3] [] ?_|refine rg 1 [0,1,2,3] [0,1,2,3,18] [(2,15)] ?_|refine rg 2 [] [8] [] ?_|refine nc ?_);simp[hF,h3,h4]
  (try refine nr ?_);(repeat first|refine aF ?_|refine aG ?_);refine ak.o [8] [0] [(0,[.d])] ?_;simp[hF,an,aa,ah,aA,he]
  exact⟨r,T1,rfl,rfl,rfl⟩
 have hf:fZ v=true:=by simp[fZ];omega
 repeat first|refine n1 ?_|refine n2 ?_|(first|refine rg 0 [0,1,2,3] [0,1,2,3] [] ?_|refine rg 1 [0,1,2,3] [0,1,2,3,18] [(2,15)] ?_|refine rg 3 [0,1,2,3] [0,1,2,3,9] [] ?_|refine nc ?_);simp[hF,h3,h4]
 refine(qc T hc t n).go [(0,[])] (by simp[hF,aA]) ?_;rintro av X κ ⟨rfl,rfl,rfl⟩;simp[hF,aA]
 by_cases h0:bK s t true [n]=0
 ·obtain⟨hv,_,hn⟩:=Dg h0
  have Di:=qa h T hc t n
  rw[o7 hv (by simpa using hn)] at Di
  repeat first|refine n1 ?_|refine n2 ?_|(first|refine rg 4 [0,1,2,3,9] [0,1,2,3,9,24] [] ?_|refine rg 6 [0,1,2,3] [0,1,2,3,10,11] [] ?_|refine nc ?_);simp[hF,h0]
  cases hb:(aJ s t n []).2 with
  | false =>
   have he:eD s t n v=(s,3):=by simp[eD,hf,h0,hb]
   have ht:toldOf (aJ s t n [])=(Fo.none,3):=by simp[toldOf,hb]
   rw[ht] at Di
   refine(Di).go [(0,[])] (by simp[hF,aA,bR,aK,Fo.none,En.none]) ?_;rintro av X κ ⟨rfl,rfl,rfl⟩;simp[hF,aA,bR,aK,Fo.none,En.none]
   repeat first|refine n1 ?_|(first|refine rg 7 [0,1,2,3,10,11] [0,1,2,3,10,11,34] [] ?_|refine rg 8 [11] [8] [] ?_|refine nc ?_);simp[hF]
   (try refine nr ?_);(repeat first|refine aF ?_|refine aG ?_);refine ak.o [8] [0] [(0,[.d])] ?_;simp[hF,an,aa,ah,aA,he]
   exact⟨r,T1,rfl,rfl,rfl⟩
  | true =>
   have he:eD s t n v=(dH s (t,-1) n { iW s t n with Ch:=v },0):=by simp[eD,hf,h0,hb]
   have ht:toldOf (aJ s t n [])=((aJ s t n []).1,0):=by simp[toldOf,hb]
   have hsh:iW s t n=match iO s (t,-1) n with
    | some own=>if own.body≠-1 then own else (aJ s t n []).1.e
    | none=>(aJ s t n []).1.e:=rfl
   have fin:∀e0:En,iW s t n=e0→eD s t n v=(dH s (t,-1) n ⟨e0.body,v,e0.home,e0.known⟩,0):=fun e0 h=>by rw[he,h]
   rw[ht] at Di
   generalize (aJ s t n []).1=fo at *
   rw[T.rows] at hsh
   refine(Di).go [(0,[])] (by simp[hF,aA,bR,aK]) ?_;rintro av X κ ⟨rfl,rfl,rfl⟩;simp[hF,aA,bR,aK]
   repeat first|refine n1 ?_|refine n2 ?_|(first|refine rg 7 [0,1,2,3,10,11] [0,1,2,3,10,11,34] [] ?_|refine rg 9 [0,1,2,3,10] [0,1,2,3,10,12] [] ?_|refine nc ?_);simp[hF]
   cases hg:bF r.rows ((t,-1),n) with
   | none =>
    have hp:=jY hg
    rw[hg] at hsh
    have oD:=fin fo.e hsh
    refine(gA r hl t (-1) n).go [(0,[])] (by simp[hF,aA,hp]) ?_;rintro av X κ ⟨rfl,rfl,rfl⟩;simp[hF,aA,hp]
    repeat first|refine n1 ?_|refine n2 ?_|(first|refine rg 10 [0,1,2,3,10,12] [0,1,2,3,10,12,53] [(2,42)] ?_|refine rg 12 [0,1,2,3,10] [0,1,2,10] [] ?_|refine rg 13 [0,1,2,10] [] [] ?_|refine nc ?_);simp[hF,bR,aK]
    refine(nL r hl t (-1) n ⟨fo.e.body,v,fo.e.home,fo.e.known⟩).go [(0,[])] (by simp[hF,aA]) ?_;rintro av X κ ⟨rfl,rfl,rfl⟩;simp[hF,aA]
    repeat first|refine n1 ?_|refine rg 14 [] [8] [] ?_;simp[hF]
    (try refine nr ?_);(repeat first|refine aF ?_|refine aG ?_);refine ak.o [8] [0] [(0,[.d])] ?_;simp[hF,an,aa,ah,aA,oD]
    exact⟨_,T.put _ _ _,rfl,rfl,rfl⟩
   | some e0 =>
    obtain⟨hp,hi,hat⟩:=jX hg
    rw[hg] at hsh
    have hrn:=lE hi
    rw[hat] at hrn
    simp only[xS,aK] at hrn
    by_cases hbd:e0.body=-1
    ·have oD:=fin fo.e (by rw[hsh];simp[hbd])
     refine(gA r hl t (-1) n).go [(0,[])] (by simp[hF,aA,hp]) ?_;rintro av X κ ⟨rfl,rfl,rfl⟩;simp[hF,aA,hp]
     generalize eB r.rows ((t,-1),n)=i at *
     repeat first|refine n1 ?_|refine n2 ?_|(first|refine rg 10 [0,1,2,3,10,12] [0,1,2,3,10,12,53] [(2,42)] ?_|refine rg 12 [0,1,2,3,10] [0,1,2,10] [] ?_|refine rg 13 [0,1,2,10] [] [] ?_|refine nc ?_);simp[hF,aA,hrn,hi,bR,aK,hbd]
     refine(nL r hl t (-1) n ⟨fo.e.body,v,fo.e.home,fo.e.known⟩).go [(0,[])] (by simp[hF,aA]) ?_;rintro av X κ ⟨rfl,rfl,rfl⟩;simp[hF,aA]
     repeat first|refine n1 ?_|refine rg 14 [] [8] [] ?_;simp[hF]
     (try refine nr ?_);(repeat first|refine aF ?_|refine aG ?_);refine ak.o [8] [0] [(0,[.d])] ?_;simp[hF,an,aa,ah,aA,oD]
     exact⟨_,T.put _ _ _,rfl,rfl,rfl⟩
    ·have oD:=fin e0 (by rw[hsh];simp[hbd])
     refine(gA r hl t (-1) n).go [(0,[])] (by simp[hF,aA,hp]) ?_;rintro av X κ ⟨rfl,rfl,rfl⟩;simp[hF,aA,hp]
     generalize eB r.rows ((t,-1),n)=i at *
     repeat first|refine n1 ?_|(first|refine rg 10 [0,1,2,3,10,12] [0,1,2,3,10,12,53] [(2,42)] ?_|refine rg 11 [0,1,2,3,10,12] [0,1,2,3,10] [] ?_|refine rg 12 [0,1,2,3,10] [0,1,2,10] [] ?_|refine rg 13 [0,1,2,10] [] [] ?_|refine nc ?_);simp[hF,aA,hrn,hi,bR,aK,hbd]
     refine(nL r hl t (-1) n ⟨e0.body,v,e0.home,e0.known⟩).go [(0,[])] (by simp[hF,aA]) ?_;rintro av X κ ⟨rfl,rfl,rfl⟩;simp[hF,aA]
     repeat first|refine n1 ?_|refine rg 14 [] [8] [] ?_;simp[hF]
     (try refine nr ?_);(repeat first|refine aF ?_|refine aG ?_);refine ak.o [8] [0] [(0,[.d])] ?_;simp[hF,an,aa,ah,aA,oD]
     exact⟨_,T.put _ _ _,rfl,rfl,rfl⟩
 ·have he:eD s t n v=(s,bK s t true [n]):=by simp[eD,hf,h0]
  repeat first|refine n1 ?_|(first|refine rg 4 [0,1,2,3,9] [0,1,2,3,9,24] [] ?_|refine rg 5 [9] [8] [] ?_|refine nc ?_);simp[hF,h0]
  (try refine nr ?_);(repeat first|refine aF ?_|refine aG ?_);refine ak.o [8] [0] [(0,[.d])] ?_;simp[hF,an,aa,ah,aA,he]
  exact⟨r,T1,rfl,rfl,rfl⟩
theorem V8{R:List Th}{r:Int→Nat}(B:ez R r):ai Tryz.prog 71 [dR R] (.cons (.ptr 0 [.d]) .nil)
  fun av X κ=>av=fX (.ptr 1 [.d]) 0∧X=[dR R,aA ⟨R,[],[]⟩]∧κ=[]:=by
 refine fb Tryz.func71 Tryz.ntmps71 [.tmp 2,.tmp 3] fun w0 I0 F0 hF=>?_
 repeat first|refine n1 ?_|(first|refine rg 0 [0] [0] [] ?_|refine rg 1 [0] [0,5] [] ?_);simp[hF]
 refine(vQ R).go [(0,[])] (by simp[hF,dR]) ?_;rintro av X κ ⟨rfl,rfl,rfl⟩;simp[hF,dR]
 repeat first|refine n1 ?_|refine n2 ?_|(first|refine rg 3 [0] [2,3] [] ?_|refine nc ?_);simp[hF]
 refine(vV B).go [(0,[])] (by simp[hF,dR]) ?_;rintro av X κ ⟨rfl,rfl,rfl⟩;simp[hF,dR]
 repeat refine n1 ?_
 (try refine nr ?_);(repeat first|refine aF ?_|refine aG ?_);refine ak.o [2,3] [0,2] [] ?_;simp[hF,an,aa,ah,dR,aA]
theorem bL(n:Int)(s:ByteArray):ai Tryz.prog 20 [] (.cons (ag n) (.cons (.val (.string s)) .nil)) fun av X κ=>av=.val (.string (nameOf n s))∧X=[]∧κ=[]:=by
 obtain⟨h1,h2⟩:=Aq n (n:=5) (by omega)
 have VB:(IntKind.u64.wrap n).tmod 5=(nM n 5:Int):=h1
 have hd:nameOf n s=if nM n 5=0 then fA else if nM n 5=1 then fB else if nM n 5=2 then fC else if nM n 5=3 then fF else s:=rfl
 rw[hd]
 have w2:IntKind.i64.wrap (nM n 5:Int)=nM n 5:=IntWalk.i64_in _ (by omega)
 generalize nM n 5=k at *
 have v0:IntKind.i64.wrap 0=0:=by decide
 have v1:IntKind.i64.wrap 1=1:=by decide
 have v2:IntKind.i64.wrap 2=2:=by decide
 have v3:IntKind.i64.wrap 3=3:=by decide
 have v4:IntKind.i64.wrap 4=4:=by decide
 refine fb Tryz.func20 Tryz.ntmps20 [.tmp 4] fun w0 I0 F0 hF=>?_
 rcases(by omega:k=0∨k=1∨k=2∨k=3∨k=4) with rfl|rfl|rfl|rfl|rfl
 all_goals
  repeat first|refine n1 ?_|(first|refine rg 0 [0,1] [0,1] [] ?_|refine rg 1 [0,1] [4] [] ?_);simp[hF,VB,v0,v1,v2,v3,v4]
  (try refine nr ?_);(repeat first|refine aF ?_|refine aG ?_);refine ak.o [4] [] [] ?_;simp[hF,an,aa,ah]
def r0:Rt:=⟨L0,[],[]⟩
theorem TR0:TR 0 s0 r0:=⟨adf,fun _ _=>rfl,fun _=>rfl,by decide,by decide,by decide⟩
def Km (s:Mt) (r:Rt):D:=.box true () (.agg (.cons (au true s) (.cons (aA r) .nil)))
@[simp high] theorem adw(s:Mt)(r:Rt):aW (Km s r)=true:=by rw[Km,aW]
abbrev adx (i:Nat):AV:=.agg (.cons (.ptr i [.d,.f 0,.d]) (.cons (.ptr i [.d,.f 1,.d]) .nil))
abbrev FM (i j:Nat):AV:=.agg (.cons (.ptr i [.d]) (.cons (.ptr j [.d]) .nil))
theorem V9:∃r,ez L0 r:=yT.wf.base
theorem Q5:ai Tryz.prog 27 [] .nil fun av X κ=>av=.cT (.cons (adx 0) (.cons (aN true) .nil))∧X=[Km s0 r0]∧κ=[]:=by
 obtain⟨r,B⟩:=V9
 refine fb Tryz.func27 Tryz.ntmps27 [.cell 0 26,.tmp 1] fun w0 I0 F0 hF=>?_
 repeat first|refine n1 ?_|(first|refine rg 0 [] [0] [] ?_|refine rg 1 [0] [0,2,3] [] ?_);simp[hF]
 refine(vJ).go [] (by simp[hF]) ?_;rintro av X κ ⟨rfl,rfl,rfl⟩;simp[hF]
 repeat refine n1 ?_
 refine(Q6 yT (by decide)).go [(1,[])] (by simp[hF,dL]) ?_;rintro av X κ ⟨rfl,rfl,rfl⟩;simp[hF,dL]
 repeat first|refine n1 ?_|refine rg 2 [0,2,3] [0,2,3,4,5] [] ?_;simp[hF]
 refine(Vy).go [] (by simp[hF]) ?_;rintro av X κ ⟨rfl,rfl,rfl⟩;simp[hF]
 repeat refine n1 ?_
 refine(V8 B).go [(3,[])] (by simp[hF,dR]) ?_;rintro av X κ ⟨rfl,rfl,rfl⟩;simp[hF,dR]
 repeat first|refine n1 ?_|refine rg 3 [0,2,3,4,5] [0,1] [(5,21),(9,25),(13,29)] ?_;simp[hF]
 refine(bX true ⟨L0,[],[]⟩).go [(2,[])] (by simp[hF,au,dL,aA,dR]) ?_;rintro av X κ ⟨rfl,rfl,rfl⟩;simp[hF,au,dL,aA,dR]
 repeat refine n1 ?_
 (try refine nr ?_);(repeat first|refine aF ?_|refine aG ?_);refine ak.o [0,1] [0] [] ?_;simp[hF,an,aa,ah,au,dL,aA,dR,s0,r0,Km]
end Go.Proofs.YtbhigdljojlhnaaGreat

namespace Go.Vc
set_option linter.all false
open T (cM blk)
def AG (B:Nat→Prop) (w w':World):Prop:=∀b,B b→b<w.heap.size→w'.heap[b]? = w.heap[b]?
theorem Ext.toB{B:Nat→Prop}{w w':World}(h:Ext w w'):AG B w w':=fun b _ hb=>h b hb
section
variable {P:Program} {ops:Array Oper} {Q:Exit→Act→World→Prop} {md:Region.Mode} {B:Nat→Prop}
def rf (P:Program) (md:Region.Mode) (ops:Array Oper) (B:Nat→Prop) (E:Nat→Bool) (Q:Exit→Act→World→Prop):Nat→Array Bool→Act→World→Prop
 | 0,listed,a,w=>Region.ready md ops listed=[]∧Q .normal a w
 | fuel+1,listed,a,w =>
  (Region.ready md ops listed=[]→Q .normal a w) ∧
  ∀i∈Region.ready md ops listed,wpOp P ops Q i (fun a' w'=>(E i=true→AG B w w')∧rf P md ops B E Q fuel (listed.setIfInBounds i true) a' w') a w
variable {E:Nat→Bool}
theorem wG:∀(fuel:Nat) (listed:Array Bool) (a:Act) (w:World),rf P md ops B E Q fuel listed a w→wpAny P md ops Q fuel listed a w
 | 0,_,_,_,h=>h
 | fuel+1,_,_,_,h=>⟨h.1,fun i hi=>wpOp_mono (fun a' w' h'=>wG fuel _ a' w' h'.2) (h.2 i hi)⟩
theorem AH{S:World→Prop}{i:Nat}{oi:Oper}{v:Value}(hi:ops[i]? = some oi)(hsel:∀(j:Nat) (o:Oper) cs b,ops[j]? = some o→o.op≠.select cs b)
  (hQ:∀c a w,Q (.panic c) (a.put oi.dst v) w→Q (.panic c) a w) (hSE:(∀w,S w)∨∀w w',S w→AG B w w'→S w') (D:Nat→Bool)
  (hD:∀j oj,ops[j]? = some oj→D j=true→∃e∈oj.after,Region.binds md e=true∧(e.on=i∨D e.on=true)) :
  ∀(fuel:Nat) (listed:Array Bool) (a:Act) (w:World),(∀j,D j=true→listed.getD j false=false) →
   (∀j oj,ops[j]? = some oj→j≠i→listed.getD j true=false→D j=false→oi.apart ops oj=true∧((∀w,S w)∨E j=true)) →
   i∈Region.ready md ops listed→dI P ops S oi v a→S w →
   rf P md ops B E Q fuel (listed.setIfInBounds i true) (a.put oi.dst v) w→rf P md ops B E Q (fuel+1) listed a w:=by
 intro fuel
 induction fuel with
 | zero =>
  intro listed a w _ _ hr hy hS H
  refine⟨fun h=>(by rw[h] at hr;cases hr),fun j hj=>?_⟩
  by_cases hji:j=i
  ·subst hji;exact hy.wpOp hi hS ⟨fun _ _ _ _=>rfl,H⟩
  ·have:=ready_mono hj hji
   rw[H.1] at this
   cases this
 | succ fuel ih =>
  intro listed a w hDl hfree hr hy hS H
  refine⟨fun h=>(by rw[h] at hr;cases hr),fun j hj=>?_⟩
  by_cases hji:j=i
  ·subst hji;exact hy.wpOp hi hS ⟨fun _ _ _ _=>rfl,H⟩
  ·have h1:=H.2 j (ready_mono hj hji)
   obtain⟨RB,oj,GR,hall⟩:=mem_ready.1 hj
   have RC:=(mem_ready.1 hr).1
   have hjD:D j=false:=by
    cases hd:D j with
    | false=>rfl
    | true =>
     exfalso
     obtain⟨e,he,hb,h2⟩:=hD j oj GR hd
     have h3:=hall e he hb
     rcases h2 with h2|h2
     ·rw[h2] at h3
      rcases Nat.lt_or_ge i listed.size with h'|h'
      ·simp[h'] at RC h3;rw[RC] at h3;cases h3
      ·simp[Array.getElem?_eq_none h'] at h3
     ·rw[hDl _ h2] at h3;cases h3
   obtain⟨hap,GS⟩:=hfree j oj GR hji RB hjD
   have h2:=zl GR hap (fun cs b=>hsel i oi cs b hi) (fun cs b=>hsel j oj cs b GR) hQ hy h1
   have aak:∀k,D k=true→(listed.setIfInBounds j true).getD k false=false:=fun k hk=>by
    by_cases hjk:j=k
    ·subst hjk;rw[hjD] at hk;cases hk
    ·rw[getD_set_ne false hjk];exact hDl k hk
   have wH:∀k ok,ops[k]? = some ok→k≠i→(listed.setIfInBounds j true).getD k true=false→D k=false→oi.apart ops ok=true∧((∀w,S w)∨E k=true):=fun k ok hk hki hun hno=>by
    refine hfree k ok hk hki ?_ hno
    by_cases hjk:j=k
    ·subst hjk;exact RB
    ·rw[getD_set_ne true hjk] at hun;exact hun
   refine wpOp_mono (fun a' w' h3=>⟨h3.2.1,ih (listed.setIfInBounds j true) a' w' aak wH (ready_mono hr (Ne.symm hji)) h3.1 ?_ ?_⟩) h2
   ·rcases hSE with h|h
    ·exact h _
    ·rcases GS with h'|h'
     ·exact h' _
     ·exact h w w' hS (h3.2.1 h')
   ·rw[Array.setIfInBounds_comm _ _ hji]
    exact h3.2.2
theorem DF{listed:Array Bool}{a:Act}{w:World}(hr:Region.ready md ops listed=[])(h:Q .normal a w) :
  ∀fuel,rf P md ops B E Q fuel listed a w
 | 0=>⟨hr,h⟩
 | _+1=>⟨fun _=>h,by rw[hr];simp⟩
end
def GU:Path→Bool
 | []=>true
 | .f _::q=>GU q
 | _=>false
theorem RD:∀{q:Path} {g:G} {l:Loc},GU q=true→g.loc q=some l→∃o,l=.rel o
 | [],g,l,_,h=>by unfold T.loc at h;cases h;exact⟨0,rfl⟩
 | .f i::q,g,l,hq,h=>by
  unfold T.loc at h
  cases g with
  | agg s =>
   simp only at h
   split at h
   ·cases hs:(s.nth i).loc q with
    | none=>rw[hs] at h;cases h
    | some l' =>
     obtain⟨o,rfl⟩:=RD (by simpa[GU] using hq) hs
     rw[hs] at h;cases h;exact⟨_,rfl⟩
   ·cases h
  | _=>simp at h
 | .i _::q,_,_,hq,_=>by cases hq
 | .d::q,_,_,hq,_=>by cases hq
theorem AI{g:G}{q:Path}{b o:Nat}(hq:GU q=true)(h:g.loc (.d::q)=some (.abs b o)):∃ow a g',g=.box ow a g'∧∃off,T.bQ a=some (b,off):=by
 unfold T.loc at h
 cases g with
 | box ow a g' =>
  simp only at h
  cases hl:g'.loc q with
  | none=>rw[hl] at h;cases h
  | some l =>
   obtain⟨o',rfl⟩:=RD hq hl
   rw[hl] at h
   cases ha:T.bQ a with
   | none=>rw[ha] at h;cases h
   | some x =>
    obtain⟨b',off⟩:=x
    rw[ha] at h
    cases h
    exact⟨ow,a,g',rfl,off,ha⟩
 | _=>simp at h
theorem GV{a:Value}{b off:Nat}(h:T.bQ a=some (b,off)):b∈blk a:=by
 unfold T.bQ at h
 split at h
 ·cases h;simp[blk]
 ·cases h;simp[blk]
 ·cases h
def qf:AV→Option Nat
 | .ptr k [.d]=>some k
 | _=>none
def AJ:D→Bool
 | .box true _ _=>true
 | _=>false
def DG:List Tmp→St→Bool
 | [],_=>true
 | t::ts,st=>(match qf (look st.env t) with
  | some k=>AJ (st.tree k)
  | none=>false)&&DG ts st
def sH:List Tmp→St→List Nat
 | [],_=>[]
 | t::ts,st=>(match qf (look st.env t) with
  | some k=>[k]
  | none=>[])++sH ts st
def ye (k:Nat):List Nat→Bool
 | []=>false
 | x::l=>Nat.beq x k||ye k l
def wJ (ks:List Nat):AV→Bool
 | .ptr k (.d::q)=>GU q&&ye k ks
 | _=>false
def ri (ts:List Tmp) (st:St) (o:Oper):Bool:=match o.op with
 | .load _ x=>wJ (sH ts st) (st.ev x)
 | _=>true
def Bv (ts:List Tmp) (v:Tmp→Value) (b:Nat):Prop:=∃t∈ts,∃o,v t=.pointer (some ⟨b,o,none⟩)
theorem sI{av:AV}{k:Nat}(h:qf av=some k):av=.ptr k [.d]:=by
 unfold qf at h
 split at h
 ·cases h;rfl
 ·cases h
theorem DH{k:Nat}:∀{l:List Nat},ye k l=true→k∈l
 | x::l,h=>by
  simp only[ye,Bool.or_eq_true] at h
  rcases h with h|h
  ·rw[Nat.eq_of_beq_eq_true h];exact List.mem_cons_self ..
  ·exact List.mem_cons_of_mem _ (DH h)
theorem wK{k:Nat}:∀{l:List Nat},k∈l→ye k l=true
 | y::l,h=>by
  simp only[ye,Bool.or_eq_true]
  rcases List.mem_cons.1 h with h|h
  ·subst h;exact Or.inl (Nat.beq_refl _)
  ·exact Or.inr (wK h)
theorem DI{k:Nat}{st:St}:∀{ts:List Tmp},k∈sH ts st→∃t∈ts,look st.env t=.ptr k [.d]
 | t::ts,h=>by
  simp only[sH,List.mem_append] at h
  rcases h with h|h
  ·split at h
   ·rename_i k' hk
    rw[List.mem_singleton] at h;subst h
    exact⟨t,List.mem_cons_self ..,sI hk⟩
   ·cases h
  ·obtain⟨t',h1,h2⟩:=DI h
   exact⟨t',List.mem_cons_of_mem _ h1,h2⟩
theorem DJ{st:St}:∀{ts:List Tmp},DG ts st=true→∀t∈ts,∃k,look st.env t=.ptr k [.d]∧AJ (st.tree k)=true∧k∈sH ts st
 | t0::ts,h,t,ht=>by
  simp only[DG,Bool.and_eq_true] at h
  rcases List.mem_cons.1 ht with rfl|ht
  ·have h1:=h.1
   cases hk:qf (look st.env t) with
   | none=>rw[hk] at h1;cases h1
   | some k =>
    rw[hk] at h1
    exact⟨k,sI hk,h1,by simp[sH,hk]⟩
  ·obtain⟨k,h1,h2,h3⟩:=DJ h.2 t ht
   exact⟨k,h1,h2,by simp[sH,h3]⟩
section
variable {c:Cx} {τ:bg} {st:St} {a:Act} {w:World} {I:Nat→Prop} {F:List G} {ts:List Tmp} {v:Tmp→Value}
theorem Wu(he:bw st.env a w I F)(hv:∀t∈ts,a.tmps.getD t undef=v t){x:Operand}(h:wJ (sH ts st) (st.ev x)=true) :
  ∃k q b o,st.ev x=.ptr k q∧dF F k q=some (.abs b o)∧a.eval x=.pointer (some ⟨b,o,none⟩)∧Bv ts v b:=by
 unfold wJ at h
 split at h
 case h_2=>cases h
 rename_i k q hx
 simp only[Bool.and_eq_true] at h
 obtain⟨t,ht,hl⟩:=DI (DH h.2)
 have oH:=he.ev x
 rw[hx] at oH
 obtain⟨b,o,h1,h2⟩:=oH
 have DK:=he t
 rw[hl] at DK
 obtain⟨b',o',h3,h4⟩:=DK
 simp only[List.cons.injEq,and_true] at h2 h4
 refine⟨k,_,b,o,hx,h1,h2,t,ht,o',?_⟩
 rw[←hv t ht,h4]
 unfold dF at h1 h3
 cases hg:F[k]? with
 | none=>rw[hg] at h1;cases h1
 | some g =>
  rw[hg] at h1 h3
  simp only[Option.bind_some] at h1 h3
  obtain⟨_,a1,g1,e1,off1,e2⟩:=AI h.1 h1
  obtain⟨_,a2,g2,e3,off2,e4⟩:=AI (q:=[]) rfl h3
  rw[e1] at e3;cases e3
  rw[e2] at e4;cases e4
  rfl
theorem aal(hi:Inv c st.X st.κ w I F)(he:bw st.env a w I F)(hv:∀t∈ts,a.tmps.getD t undef=v t)(hts:DG ts st=true){b:Nat}(hb:Bv ts v b) :
  ∃k∈sH ts st,∃g,F[k]? = some g∧b∈g.owned:=by
 obtain⟨t,ht,o,PX⟩:=hb
 obtain⟨k,hk,Wv,hks⟩:=DJ hts t ht
 have DK:=he t
 rw[hk] at DK
 obtain⟨b',o',h3,h4⟩:=DK
 simp only[List.cons.injEq,and_true] at h4
 rw[hv t ht,PX] at h4
 simp only[Value.pointer.injEq,Option.some.injEq,Addr.mk.injEq] at h4
 obtain⟨rfl,_,_⟩:=h4
 unfold dF at h3
 cases hg:F[k]? with
 | none=>rw[hg] at h3;cases h3
 | some g =>
  rw[hg] at h3
  simp only[Option.bind_some] at h3
  obtain⟨ow,a2,g2,rfl,off2,e4⟩:=AI (q:=[]) rfl h3
  rw[hi.tree hg] at Wv
  refine⟨k,hks,_,hg,?_⟩
  cases ow with
  | false=>simp[T.erase,AJ] at Wv
  | true=>simp only[T.owned,List.mem_append];exact .inl (GV e4)
theorem LZ(hτ:bg.Ok c.P τ)(hi:Inv c st.X st.κ w I F)(he:bw st.env a w I F)(hp:dS st.pl w I F)(hv:∀t∈ts,a.tmps.getD t undef=v t)
  {o:Oper} {K:AV→Prop} (hlv:mI τ o.op st K) (hn:ri ts st o=true) (DL:eX o.op=true):∃av u,K av∧Rl w.heap I F av true [u]∧∀w',AG (Bv ts v) w w'→(execOp a.eval o).run c.P w'=.ok (.value u) w':=by
 obtain⟨av,u,h1,h2,h3⟩:=sJ hτ hi he hp hlv
 refine⟨av,u,h1,h2,fun w' Ks=>?_⟩
 obtain⟨dst,op,ty,pos,after,guard⟩:=o
 cases op with
 | load t x =>
  simp only[ri] at hn
  obtain⟨k,q,b,o,e1,e2,e3,e4⟩:=Wu he hv hn
  simp only[mI,e1] at hlv
  obtain⟨aam,_⟩:=hlv
  unfold dF at e2
  cases hg:F[k]? with
  | none=>rw[hg] at e2;cases e2
  | some g =>
   rw[hg] at e2
   simp only[Option.bind_some] at e2
   have hH:=hi.holds g (List.mem_of_getElem? hg)
   have hrow:T.oz w.heap b o (g.at_ q).cells:=T.wL hH e2
   have hd:(st.tree k).at_ q=(g.at_ q).erase:=by rw[hi.tree hg,T.bJ]
   rw[hd] at aam
   have hlen:(g.at_ q).cells.length=((g.at_ q).erase).width:=by rw[T.aI,T.eV]
   have hb:b<w.heap.size:=by
    obtain⟨row,e,fr,h3,_⟩:=hrow
    rcases Nat.lt_or_ge b w.heap.size with h'|h'
    ·exact h'
    ·rw[Array.getElem?_eq_none h'] at h3;cases h3
   obtain⟨v1,VG,uA⟩:=jE (P:=c.P) hτ aam hrow hlen
   have lM:T.oz w'.heap b o (g.at_ q).cells:=by
    obtain⟨row,e,fr,h3,h4⟩:=hrow
    exact⟨row,e,fr,by rw[Ks b e4 hb];exact h3,h4⟩
   obtain⟨v',hr',Wt⟩:=jE (P:=c.P) hτ aam lM hlen
   have hsame:v'=v1:=by
    rcases uA with ⟨s,h3,h4⟩|⟨h3,h4⟩<;>rcases Wt with ⟨s',h5,h6⟩|⟨h5,h6⟩
    ·rw[h4,h6]
    ·exact absurd h3 (h6 s)
    ·exact absurd h5 (h4 s')
    ·rw[h3] at h5;cases h5;rfl
   have hu:v1=u:=by
    have h4:=h3 w fun _ _=>rfl
    have h5:=j8 VG
    simp only[execOp,e3] at h4
    rw[h5] at h4
    cases h4;rfl
   rw[hsame,hu] at hr'
   simp only[execOp,e3]
   exact j8 hr'
 | _=>cases DL
end
def wM (c:Cx) (f:FuncId) (me:AV) (ks:List Nat) (st:St) (K:AV→St→Prop):Prop :=
 ∀a w vs I F,oI c.w0.heap.size a.defers w→a.tmps.size=c.nt→Inv c st.X st.κ w I F→bw st.env a w I F→dS st.pl w I F→Rl w.heap I F me true vs →
  iX c.P f∧Calls c.P f vs.toArray w fun e w'=>∃v av st',e=.returned v∧K av st'∧gr c st' av v a w'∧∀k∈ks,∀g,F[k]? = some g→∀b∈g.owned,w'.heap[b]? = w.heap[b]?
theorem Ww{F:List G}(hn:(own F).Nodup):∀{i j:Nat} {g g':G} {b:Nat},F[i]? = some g→F[j]? = some g'→b∈g.owned→b∈g'.owned→i=j:=by
 induction F with
 | nil=>intro i j g g' b h;cases h
 | cons x F ih =>
  intro i j g g' b hi hj hb hb'
  have kG:own (x::F)=x.owned++own F:=by simp[own]
  rw[kG] at hn
  obtain⟨_,n2,n3⟩:=List.nodup_append.1 hn
  have mem:∀{j:Nat} {g':G},F[j]? = some g'→b∈g'.owned→b∈own F:=fun h1 h2=>List.mem_flatMap.2 ⟨_,List.mem_of_getElem? h1,h2⟩
  cases i with
  | zero =>
   cases j with
   | zero=>rfl
   | succ j =>
    simp only[List.getElem?_cons_zero,Option.some.injEq] at hi
    subst hi
    exact absurd rfl (n3 b hb b (mem (by simpa using hj) hb'))
  | succ i =>
   cases j with
   | zero =>
    simp only[List.getElem?_cons_zero,Option.some.injEq] at hj
    subst hj
    exact absurd rfl (n3 b hb' b (mem (by simpa using hi) hb))
   | succ j=>exact congrArg Nat.succ (ih (i:=i) (j:=j) n2 (by simpa using hi) (by simpa using hj) hb hb')
def wN (ks:List Nat):List (Nat×Path)→Bool
 | []=>true
 | e::l=>!ye e.1 ks&&wN ks l
theorem zm{ks:List Nat}{e:Nat×Path}:∀{l:List (Nat×Path)},wN ks l=true→e∈l→e.1∉ks
 | x::l,h,he=>by
  simp only[wN,Bool.and_eq_true,Bool.not_eq_true'] at h
  rcases List.mem_cons.1 he with rfl|he
  ·intro hm
   have h1:=h.1
   rw[wK hm] at h1;cases h1
  ·exact zm h.2 he
theorem ai.wO{c:Cx}{f:FuncId}{Y:List D}{args:AV}{R:AV→List D→List (Nat×Path)→Prop}(h:ai c.P f Y args R){st:St}{me:AV}{ks:List Nat}{K:AV→St→Prop}(aC:List (Nat×Path))
  (hn:(aC.map (·.1)).Nodup) (oE:eU st aC Y) (ha:args.kO aC st.X.length=me) (hok:args.fH aC.length=true)
  (hx:wN ks aC=true) (hK:∀av X κ,R av X κ→K (av.kO aC st.X.length) (st.after c.F0.length aC X κ)):wM c f me ks st K:=by
 intro a w vs I F hd hs hi he hp hxs
 refine⟨h.1,?_⟩
 obtain⟨p1,p2,p3⟩:=gW oE
 have yd:F.length=st.X.length:=by rw[←hi.erase];simp
 have fD:∀k,st.tree k=(F.getD k .nil).erase:=fun k=>by
  rw[St.tree,←hi.erase,List.getD_eq_getElem?_getD,List.getElem?_map,List.getD_eq_getElem?_getD]
  cases F[k]? <;> rfl
 have gX:∀e∈aC,e.1<F.length∧(F.getD e.1 .nil).dU e.2=true∧T.noEntry false (F.getD e.1 .nil) e.2=true:=fun e he=>by
  obtain⟨h1,h2,h3,_⟩:=p2 e he
  rw[fD,T.gL] at h2
  rw[fD,T.eW] at h3
  exact⟨by omega,h2,h3⟩
 have pq:∀e∈aC,(F.getD e.1 .nil).dU e.2=true∧aW ((F.getD e.1 .nil).at_ e.2)=true:=fun e he=>by
  obtain⟨h1,h2,h3,h4⟩:=p2 e he
  rw[fD,←T.bJ,kP] at h4
  exact⟨(gX e he).2.1,h4⟩
 have hY:(nodes F aC).map T.erase=Y:=by
  rw[←p3,nodes,List.map_map]
  exact List.map_congr_left fun e he=>by simp only[Function.comp_apply,fD,T.bJ]
 subst ha
 have hargs:=pz pq args hok hxs
 have hsub:∀b,(own (nodes F aC)).count b≤(own F).count b:=fun b=>by
  have h3:=fN b aC (aC.map fun _=>T.nil) F hn (by simp) fun e he=>⟨(gX e he).1,(gX e he).2.1⟩
  have hz:(own (aC.map fun _=>(T.nil:G))).count b=0:=by rw[mX];rfl
  omega
 have hmem:∀b∈own (nodes F aC),b∈own F:=fun b hb=>by have:=hsub b;rw[aq] at *;omega
 refine Calls.mono (h.2 w I (nodes F aC) vs hY (fun g hg=>?_) (bu fun b=>Nat.le_trans (hsub b) (aS hi.nodup b)) (fun b hb=>hi.apart b (hmem b hb)) (fun b hb=>hi.lt b (hmem b hb)) hi.ic hargs) ?_
 ·simp only[nodes,List.mem_map] at hg
  obtain⟨e,he,rfl⟩:=hg
  have h1:=(gX e he).1
  refine T.Holds.at_ (hi.holds _ ?_) e.2
  rw[List.getD_eq_getElem?_getD,List.getElem?_eq_getElem h1];exact List.getElem_mem h1
 ·rintro e w' ⟨v,av,X,κ,I',F',rfl,hR,hc,hv⟩
  have S:=jo.call hi hn gX hc
  have hres:=sF (F':=F') hn (fun e he=>⟨(gX e he).1,(gX e he).2.1⟩) av hv
  refine⟨v,_,_,rfl,hK av X κ hR,⟨hd.step hi S,hs,I',joined aC F' F,?_,he.step hi S,hp.step hi S,by rw[←yd];exact hres⟩,fun k hk g hg b hb=>?_⟩
  rotate_left
  ·have L3:b∈own F:=List.mem_flatMap.2 ⟨_,List.mem_of_getElem? hg,hb⟩
   refine hc.frame b (hi.lt b L3) fun hm=>?_
   have hm:b∈own (nodes F aC):=hm
   obtain⟨g',hg',hb'⟩:=List.mem_flatMap.1 hm
   simp only[nodes,List.mem_map] at hg'
   obtain⟨e,he',rfl⟩:=hg'
   have h1:=(gX e he').1
   have Vb:F[e.1]? = some (F.getD e.1 .nil):=by rw[List.getD_eq_getElem?_getD,List.getElem?_eq_getElem h1];rfl
   have zU:b∈(F.getD e.1 .nil).owned:=(T.ng (hi.holds _ (List.mem_of_getElem? Vb)) e.2).mem hb'
   have:=Ww hi.nodup hg Vb hb zU
   exact zm hx he' (this▸hk)
  have h2:=hi.step S
  have q9:(joined aC F' F).map T.erase=(st.after c.F0.length aC X κ).X:=by
   simp only[joined,St.after,List.map_append,lJ,hi.erase,List.map_take,List.map_drop,hc.erase]
  rw[q9] at h2
  refine h2.iY fun k q s hk oG=>?_
  simp only[St.after] at oG
  rw[aM,Bool.or_eq_false_iff] at oG ⊢
  refine⟨?_,oG.2⟩
  have h3:=oG.1
  unfold dead at h3 ⊢
  rw[List.any_eq_false] at h3 ⊢
  rintro⟨k0,q0⟩ hm hx
  refine h3 (k0,q0) (List.mem_filter.2 ⟨hm,?_⟩) hx
  simp only[Bool.and_eq_true,beq_iff_eq] at hx
  rw[←hx.1]
  exact Nat.ble_eq_true_of_le hk
theorem ai.Ci{c:Cx}{f:FuncId}{Y:List D}{args:AV}{R:AV→List D→List (Nat×Path)→Prop}(h:ai c.P f Y args R){st:St}{me:AV}{ks:List Nat}{K:AV→St→Prop}(aC:List (Nat×Path))
  (hc:(aC.map (·.1)).Nodup∧eU st aC Y∧args.kO aC st.X.length=me∧args.fH aC.length=true∧wN ks aC=true) (hK:∀av X κ,R av X κ→K (av.kO aC st.X.length) (st.after c.F0.length aC X κ)):wM c f me ks st K :=
 h.wO aC hc.1 hc.2.1 hc.2.2.1 hc.2.2.2.1 hc.2.2.2.2 hK
def wO (c:Cx) (τ:bg) (ts:List Tmp) (o:Oper) (st:St) (K:AV→St→Prop):Prop :=
 match o.op with
 | .call cc=>match cc.callee with
  | .value f=>match st.ev f with
   | .fn g s=>(s.cI=true∧DG ts st=true)∧wM c g ((jF τ st cc.args.toList cc.argTypes.toList).app s) (sH ts st) st K
   | _=>False
  | _=>False
 | _=>False
def DM (ts:List Tmp):Option Tmp→Bool
 | some d=>!ye d ts
 | none=>true
def wo (ts:List Tmp) (ops:List Oper):Bool:=ops.all fun o=>DM ts o.dst
theorem wP{ts:List Tmp}{a:Act}{d:Option Tmp}(u:Value){v:Tmp→Value}(h:DM ts d=true)(hv:∀t∈ts,a.tmps.getD t undef=v t):∀t∈ts,(a.put d u).tmps.getD t undef=v t:=by
 intro t ht
 cases d with
 | none=>exact hv t ht
 | some d =>
  have hne:d≠t:=by
   rintro rfl
   rw[DM,wK ht] at h;cases h
  rw[←hv t ht]
  simp[Act.put,Array.getElem?_setIfInBounds_ne hne]
def wQ (c:Cx) (τ:bg) (ts:List Tmp) (gs:List (Nat×Tmp)) (ops:List Oper) (EM i:Nat) (st:St) (K:St→Prop):Prop :=
 bif Nat.testBit EM i then (match ops[i]? with
  | some o=>o.guard=none∧wO c τ ts o st fun av st'=>eO gs i o.dst av st' K
  | none=>False)
 else dz c τ gs ops i st K
section
variable {c:Cx} {τ:bg} {ops:List Oper} {gs:List (Nat×Tmp)} {Q:Exit→Act→World→Prop} {ts:List Tmp} {v:Tmp→Value}
theorem RE(hτ:bg.Ok c.P τ)(nh:oJ ops gs=true)(hnt:dY c.nt ops=true){i:Nat}{st:St}{a:Act}{w:World}{K:St→Prop}(h:Rel c st a w)(hv:dz c τ gs ops i st K) :
  wpOp c.P ops.toArray Q i (fun a' w'=>(((ops.toArray[i]?).any fun o=>ff o.op)=true→Ext w w')∧(∃o u,ops[i]? = some o∧a'=a.put o.dst u)∧∃st',K st'∧Rel c st' a' w') a w:=by
 unfold dz az at hv
 unfold wpOp
 cases ho:ops[i]? with
 | none=>rw[ho] at hv;exact hv.elim
 | some o =>
  rw[ho] at hv
  have ho':ops.toArray[i]? = some o:=by simpa using ho
  simp only[ho']
  simp only at hv
  have iN:=rj hnt ho
  have run:(cF c τ o st fun av st'=>eO gs i o.dst av st' K)→Region.wanted o (yielded ops.toArray a.tmps)=true →
    (if Region.wanted o (yielded ops.toArray a.tmps)=true then o.wp c.P a w (fun a' w'=>(((some o).any fun o=>ff o.op)=true→Ext w w')∧(∃o' u,some o=some o'∧a'=a.put o'.dst u)∧∃st',K st'∧Rel c st' a' w') Q∨(o.asks c.P a w∧LetsOut Q)
     else (((some o).any fun o=>ff o.op)=true→Ext w w)∧(∃o' u,some o=some o'∧(a.put o.dst undef)=a.put o'.dst u)∧∃st',K st'∧Rel c st' (a.put o.dst undef) w):=fun hv hw=>by
   rw[if_pos hw]
   refine .inl (zn hτ h hv fun av v st' w' h1 h2 h3=>⟨fun he=>h3 (.inl (by simpa using he)),⟨o,v,rfl,rfl⟩,?_⟩)
   exact fM h1 h2 iN
  cases hg:o.guard with
  | none =>
   rw[hg] at hv
   exact run hv (by simp[Region.wanted,hg])
  | some g =>
   rw[hg] at hv
   simp only at hv
   cases hb:guardOf gs st (some g) with
   | none=>rw[hb] at hv;exact hv.elim
   | some b =>
    rw[hb] at hv
    have hw:=cV nh h (o:=o) (b:=b) (by rw[hg];exact hb)
    cases b with
    | true=>exact run hv hw
    | false =>
     rw[if_neg (by rw[hw];simp)]
     obtain⟨hd,hs,I,F,hi,he,hp⟩:=h
     exact⟨fun _ _ _=>rfl,⟨o,undef,rfl,rfl⟩,_,hv,gr.put (av:=.cT .nil) (v:=undef) ⟨hd,hs,I,F,hi,he,hp,[],rfl,rfl⟩ iN⟩
theorem RF(hτ:bg.Ok c.P τ)(nh:oJ ops gs=true)(hnt:dY c.nt ops=true)(hfr:wo ts ops=true){EM:Nat}{i:Nat}{st:St}{a:Act}{w:World}{K:St→Prop}(h:Rel c st a w)(DK:∀t∈ts,a.tmps.getD t undef=v t)
  (hv:wQ c τ ts gs ops EM i st K) :
  wpOp c.P ops.toArray Q i (fun a' w'=>(exts EM ops.toArray i=true→AG (Bv ts v) w w')∧(∀t∈ts,a'.tmps.getD t undef=v t)∧∃st',K st'∧Rel c st' a' w') a w:=by
 have hfree:∀o,ops[i]? = some o→DM ts o.dst=true:=fun o ho=>List.all_eq_true.1 hfr o (List.mem_of_getElem? ho)
 unfold wQ at hv
 cases he:Nat.testBit EM i with
 | false =>
  rw[he] at hv
  refine wpOp_mono (fun a' w' h1=>?_) (RE hτ nh hnt h hv)
  refine⟨fun h2=>(h1.1 (by simpa only[exts,he,Bool.or_false] using h2)).toB,?_,h1.2.2⟩
  obtain⟨o,u,ho,rfl⟩:=h1.2.1
  exact wP u (hfree o ho) DK
 | true =>
  rw[he] at hv
  simp only[cond_true] at hv
  cases ho:ops[i]? with
  | none=>rw[ho] at hv;exact hv.elim
  | some o =>
   rw[ho] at hv
   obtain⟨hg,hv⟩:=hv
   have ho':ops.toArray[i]? = some o:=by simpa using ho
   have iN:=rj hnt ho
   have hw:Region.wanted o (yielded ops.toArray a.tmps)=true:=by simp[Region.wanted,hg]
   unfold wpOp
   simp only[ho',hw,if_true]
   refine .inl ?_
   obtain⟨hd,hs,I,F,hi,Wx,hp⟩:=id h
   unfold wO at hv
   split at hv
   case h_2=>exact hv.elim
   rename_i cc hop
   split at hv
   case h_2=>exact hv.elim
   rename_i f dc
   split at hv
   case h_2=>exact hv.elim
   rename_i g s hf
   obtain⟨⟨hsq,hts⟩,hv⟩:=hv
   have Qb:=Wx.ev f
   rw[hf] at Qb
   obtain⟨l,h1,h2⟩:=Qb
   have hargs:=lN (τ:=τ) Wx h2 cc.args.toList cc.argTypes.toList
   obtain⟨hb,wR⟩:=hv a w _ I F hd hs hi Wx hp hargs
   injection h1 with h1 _
   have wH:=hfree o ho
   obtain⟨dst,op,ty,pos,after,guard⟩:=o
   simp only at hop;subst hop
   have hrun:(execOp a.eval ⟨dst,.call cc,ty,pos,after,guard⟩).run c.P w=.ok (.enter g (cc.args.toList.map a.eval++l).toArray) w:=by
    have RG:cc.args.map a.eval++l.toArray=(cc.args.toList.map a.eval++l).toArray:=by apply Array.ext';simp
    simp[execOp,resolve,dc,h1,Deferred.ofValue,invoke,kK hb,RG]
   unfold Oper.wp;rw[hrun]
   refine Calls.mono wR fun e w' he'=>?_
   obtain⟨u,av,st',rfl,k1,k2,k3⟩:=he'
   refine⟨fun _ b hbb _=>?_,wP u wH DK,fM k1 k2 iN⟩
   obtain⟨k,hk,g',hg',L3⟩:=aal hi Wx DK hts hbb
   exact k3 k hk g' hg' b L3
theorem RH(hτ:bg.Ok c.P τ)(nh:oJ ops gs=true)(hnt:dY c.nt ops=true)(hfr:wo ts ops=true)(hsel:Region.noSelect ops.toArray=true){EM:Nat}{PV:bY→St→Prop}(hVd:∀st a w,PV .done st→Rel c st a w→Q .normal a w)
  (hVt:∀i p st,PV (.take i p) st→(∀o,ops[i]? = some o→ri ts st o=true)∧dz c τ gs ops i st (PV p)) (hVf:∀l st,PV (.fork l) st→PV l st) (hVa:∀i p r st,PV (.alt i p r) st→wQ c τ ts gs ops EM i st (PV p)∧PV r st)
  (hQp:∀ch a w d v,Q (.panic ch) (Act.put a d v) w→Q (.panic ch) a w):∀(p:bY),
  (∀(listed:Array Bool) (fuel:Nat) (st:St) (a:Act) (w:World),p.gD=true→p.depth≤fuel→lP ops.toArray (exts EM ops.toArray) p listed→PV p st→Rel c st a w→(∀t∈ts,a.tmps.getD t undef=v t) →
   rf c.P .any ops.toArray (Bv ts v) (exts EM ops.toArray) Q fuel listed a w) ∧
  (∀(listed:Array Bool) (fuel:Nat) (st:St) (a:Act) (w:World) (i:Nat),i∈p.alts→p.depth≤fuel+1→lP ops.toArray (exts EM ops.toArray) p listed→PV p st→Rel c st a w→(∀t∈ts,a.tmps.getD t undef=v t) →
   wpOp c.P ops.toArray Q i (fun a' w'=>(exts EM ops.toArray i=true→AG (Bv ts v) w w')∧rf c.P .any ops.toArray (Bv ts v) (exts EM ops.toArray) Q fuel (listed.setIfInBounds i true) a' w') a w):=by
 intro p
 induction p with
 | done =>
  refine⟨fun listed fuel st a w _ _ hok hv hr _=>?_,fun _ _ _ _ _ _ h=>by cases h⟩
  exact DF hok (hVd st a w hv hr) fuel
 | nil=>exact⟨fun _ _ _ _ _ h=>(by cases h),fun _ _ _ _ _ _ h=>(by cases h)⟩
 | take i p ih =>
  refine⟨fun listed fuel st a w _ lQ hok hv hr DK=>?_,fun _ _ _ _ _ _ h=>by cases h⟩
  obtain⟨h1,⟨o,ho,h5,D,h6⟩,h3,h4⟩:=hok
  ·skip
   have ho':ops[i]? = some o:=by simpa using ho
   have iN:=rj hnt ho'
   have hfree:DM ts o.dst=true:=List.all_eq_true.1 hfr o (List.mem_of_getElem? ho')
   cases fuel with
   | zero=>simp[bY.depth] at lQ
   | succ fuel =>
    simp only[bY.depth] at lQ
    obtain⟨hd,hs,I,F,hi,he,hp⟩:=id hr
    obtain⟨RI,hv⟩:=hVt i p st hv
    have RI:=RI o ho'
    have key:∃u st',dI c.P ops.toArray (fun w'=>cW o.op=true∨AG (Bv ts v) w w') o u a∧PV p st'∧Rel c st' (a.put o.dst u) w:=by
     simp only[dz,az,ho'] at hv
     have run:(cF c τ o st fun av st'=>eO gs i o.dst av st' fun st=>PV p st)→Region.wanted o (yielded ops.toArray a.tmps)=true →
       ∃u st',dI c.P ops.toArray (fun w'=>cW o.op=true∨AG (Bv ts v) w w') o u a∧PV p st'∧Rel c st' (a.put o.dst u) w:=fun hv hw=>by
      have tk:∃av u,(eO gs i o.dst av st fun st=>PV p st)∧Rl w.heap I F av true [u]∧∀w',(cW o.op=true∨AG (Bv ts v) w w')→(execOp a.eval o).run c.P w'=.ok (.value u) w':=by
       cases hpo:cW o.op with
       | true =>
        obtain⟨av,u,g1,g2,g3⟩:=AK hτ hi he hp h5 hv
        exact⟨av,u,g1,g2,fun w' _=>g3 w' (.inl hpo)⟩
       | false =>
        rw[hpo,Bool.false_or] at h5
        obtain⟨dst,op,ty,pos,after,guard⟩:=o
        cases op with
        | load t x =>
         obtain⟨av,u,g1,g2,g3⟩:=LZ (ts:=ts) (v:=v) (o:=⟨dst,.load t x,ty,pos,after,guard⟩) (K:=fun av=>eO gs i dst av st fun st=>PV p st) hτ hi he hp DK hv RI h5
         exact⟨av,u,g1,g2,fun w' Ks=>g3 w' (Ks.resolve_left (by simp))⟩
        | _=>cases h5
      obtain⟨av,u,g1,g2,g3⟩:=tk
      obtain⟨st',g4,g5⟩:=fM g1 ⟨hd,hs,I,F,hi,he,hp,g2⟩ iN
      exact⟨u,st',.inl ⟨hw,g3⟩,g4,g5⟩
     cases hg:o.guard with
     | none=>rw[hg] at hv;exact run hv (by simp[Region.wanted,hg])
     | some g =>
      rw[hg] at hv
      simp only at hv
      cases hb:guardOf gs st (some g) with
      | none=>rw[hb] at hv;exact hv.elim
      | some b =>
       rw[hb] at hv
       have hw:=cV nh hr (o:=o) (b:=b) (by rw[hg];exact hb)
       cases b with
       | true=>exact run hv hw
       | false=>exact⟨undef,_,.inr ⟨hw,rfl⟩,hv,gr.put (av:=.cT .nil) (v:=undef) ⟨hd,hs,I,F,hi,he,hp,[],rfl,rfl⟩ iN⟩
    obtain⟨u,st',g1,g2,g3⟩:=key
    obtain⟨h61,h62,h63⟩:=h6
    refine AH (D:=D) ho (Region.noSelect_spec hsel) (fun ch a w=>hQp ch a w _ _) ?_ h61 fuel listed a w h62 ?_ h1 g1 (.inr fun _ _ _=>rfl)
     (ih.1 (listed.setIfInBounds i true) fuel st' _ w h3 (by omega) h4 g2 g3 (wP u hfree DK))
    ·refine .inr fun w1 w2 hw hE=>?_
     rcases hw with hw|hw
     ·exact .inl hw
     ·refine .inr fun b hB hb=>?_
      have h7:=hw b hB hb
      have h8:b<w1.heap.size:=by
       rcases Nat.lt_or_ge b w1.heap.size with h'|h'
       ·exact h'
       ·rw[Array.getElem?_eq_none h',Array.getElem?_eq_getElem hb] at h7;cases h7
      rw[hE b hB h8,h7]
    ·intro j oj GR hne hun hD
     have:=h63 j oj GR hne hun hD
     exact⟨this.1,this.2.imp (fun h _=>.inl h) id⟩
 | fork l ih =>
  refine⟨fun listed fuel st a w _ lQ hok hv hr DK=>?_,fun _ _ _ _ _ _ h=>by cases h⟩
  obtain⟨h1,h2,h3⟩:=hok
  have hne:∃i,i∈Region.ready .any ops.toArray listed:=List.exists_mem_of_ne_nil _ h1
  cases fuel with
  | zero =>
   obtain⟨i,hi⟩:=hne
   have:=h2 i hi
   cases l<;>simp[bY.alts,bY.depth] at this lQ
  | succ fuel =>
   exact⟨fun h=>absurd h h1,fun i hi=>ih.2 listed fuel st a w i (h2 i hi) lQ h3 (hVf _ _ hv) hr DK⟩
 | alt i p r ihp ihr =>
  refine⟨fun _ _ _ _ _ h=>(by cases h),fun listed fuel st a w j hj lQ hok hv hr DK=>?_⟩
  obtain⟨h2,h3,h4⟩:=hok
  simp only[bY.depth] at lQ
  obtain⟨uA,tJ⟩:=hVa _ _ _ _ hv
  by_cases hji:j=i
  ·subst hji
   refine wpOp_mono (fun a' w' ⟨g1,gt,st',g2,g3⟩=>⟨g1,?_⟩) (RF hτ nh hnt hfr hr DK uA)
   exact ihp.1 (listed.setIfInBounds j true) fuel st' a' w' h2 (by omega) h3 g2 g3 gt
  ·exact ihr.2 listed fuel st a w j (by simpa[bY.alts,hji] using hj) (by omega) h4 tJ hr DK
end
def DN (c:Cx) (τ:bg) (ts:List Tmp) (gs:List (Nat×Tmp)) (ops:List Oper) (EM:Nat) (K:St→Prop):bY→St→Prop
 | .done,st=>K st
 | .nil,_=>True
 | .take i p,st=>(match ops[i]? with|some o=>ri ts st o=true|none=>False)∧dz c τ gs ops i st (DN c τ ts gs ops EM K p)
 | .fork l,st=>DN c τ ts gs ops EM K l st
 | .alt i p .nil,st=>wQ c τ ts gs ops EM i st (DN c τ ts gs ops EM K p)
 | .alt i p r,st=>wQ c τ ts gs ops EM i st (DN c τ ts gs ops EM K p)∧DN c τ ts gs ops EM K r st
def DO (c:Cx) (τ:bg) (ts:List Tmp) (gs:List (Nat×Tmp)) (i:Nat):Option Oper→St→(St→Prop)→Prop
 | some o,st,K=>match o.op with
  | .load _ _=>ri ts st o=true∧K st
  | _=>o.guard=none∧wO c τ ts o st fun av st'=>eO gs i o.dst av st' K
 | none,_,_=>False
def cP (c:Cx) (τ:bg) (ts:List Tmp) (gs:List (Nat×Tmp)) (ops:List Oper):OP→St→(St→Prop)→Prop
 | .done,st,K=>K st
 | .yes,_,_=>True
 | .run l p,st,K=>jq c τ gs (fQ ops l) st fun st=>cP c τ ts gs ops p st K
 | .both p q,st,K=>cP c τ ts gs ops p st K∧cP c τ ts gs ops q st K
 | .eS i p,st,K=>DO c τ ts gs i (ops[i]?) st fun st=>cP c τ ts gs ops p st K
def j5 (EM LM:Nat):bY→OP
 | .done=>.done
 | .take i p=>bif Nat.testBit LM i then .eS i ((j5 EM LM p).push i) else (j5 EM LM p).push i
 | .fork l=>j5 EM LM l
 | .alt i p .nil=>bif Nat.testBit EM i then .eS i (j5 EM LM p) else (j5 EM LM p).push i
 | .alt i p r=>.both (bif Nat.testBit EM i then .eS i (j5 EM LM p) else (j5 EM LM p).push i) (j5 EM LM r)
 | .nil=>.yes
def LL (LM:Nat):List Oper→Nat→Bool
 | [],_=>true
 | o::l,i=>(Nat.testBit LM i==eX o.op)&&LL LM l (i+1)
theorem Kt{LM:Nat}{l:List Oper}:∀{j:Nat},LL LM l j=true→∀i o,l[i]? = some o→Nat.testBit LM (j+i)=eX o.op:=by
 induction l with
 | nil=>intro j _ i o ho;simp at ho
 | cons x l ih =>
  intro j h i o ho
  unfold LL at h
  rw[Bool.and_eq_true,beq_iff_eq] at h
  cases i with
  | zero =>
   rw[List.getElem?_cons_zero,Option.some.injEq] at ho
   rw[←ho,Nat.add_zero];exact h.1
  | succ i =>
   rw[List.getElem?_cons_succ] at ho
   have:=ih h.2 i o ho
   rw[←this];congr 1;omega
def LN (EM:Nat):List Oper→Nat→Bool
 | [],_=>true
 | o::l,i=>(!Nat.testBit EM i || !eX o.op)&&LN EM l (i+1)
theorem Wy{EM:Nat}{l:List Oper}:∀{j:Nat},LN EM l j=true→∀i o,l[i]? = some o→Nat.testBit EM (j+i)=true→eX o.op=false:=by
 induction l with
 | nil=>intro j _ i o ho;simp at ho
 | cons x l ih =>
  intro j h i o ho hb
  unfold LN at h
  rw[Bool.and_eq_true] at h
  cases i with
  | zero =>
   rw[List.getElem?_cons_zero,Option.some.injEq] at ho
   rw[Nat.add_zero] at hb
   have h1:=h.1
   rw[hb,ho] at h1
   cases hl:eX o.op with
   | false=>rfl
   | true=>rw[hl] at h1;cases h1
  | succ i =>
   rw[List.getElem?_cons_succ] at ho
   exact ih h.2 i o ho (by rw[←hb];congr 1;omega)
section
variable {c:Cx} {τ:bg} {ts:List Tmp} {gs:List (Nat×Tmp)} {ops:List Oper} {K:St→Prop}
theorem pF{i:Nat}{p:OP}{st:St}(h:cP c τ ts gs ops (p.push i) st K):dz c τ gs ops i st fun st=>cP c τ ts gs ops p st K:=by
 cases p with
 | run l q=>exact eo h
 | done=>exact eo (l:=[]) h
 | yes=>exact eo (l:=[]) h
 | both p q=>exact eo (l:=[]) h
 | eS j p=>exact eo (l:=[]) h
end
theorem zo{c:Cx}{τ:bg}{ts:List Tmp}{gs:List (Nat×Tmp)}{i:Nat}{o:Oper}{st:St}{K:St→Prop}(h:DO c τ ts gs i (some o) st K) :
  (eX o.op=true→ri ts st o=true∧K st)∧(eX o.op=false→o.guard=none∧wO c τ ts o st fun av st'=>eO gs i o.dst av st' K):=by
 obtain⟨dst,op,ty,pos,after,guard⟩:=o
 cases op<;>refine⟨fun hl=>?_,fun hl=>?_⟩<;>first|exact h|(cases hl)
theorem VC.aao{P:Program}{nt:Nat}{w0:World}{I0:Nat→Prop}{F0:List G}{τ:bg}(hτ:bg.Ok P τ)(hm:P.follows .mixedOrders=true){id:Nat}{ops:List Oper}{K:Exit→St→Prop}{st:St}(ts:List Tmp)(EM LM:Nat)(gs:List (Nat×Tmp))(T:List Rw)(p:bY)(o:OP)
  (hT:ops.map (rowOf ops.toArray)=T) (hok:gm EM nt ops gs T p=true) (ho:j5 EM LM p=o) (hfr:wo ts ops=true) (hlm:LL LM ops 0=true) (hem:LN EM ops 0=true) (h:cP ⟨P,nt,w0,I0,F0⟩ τ ts gs ops o st (K .normal)):VC ⟨P,nt,w0,I0,F0⟩ (.region id ops.toArray true) K st:=fun a w hr=>by
 subst ho
 simp only[gm,Bool.and_eq_true] at hok
 obtain⟨⟨⟨⟨⟨h1,h2⟩,h3⟩,h4⟩,h5⟩,h6⟩:=hok
 have hr':Rel ⟨P,nt,w0,I0,F0⟩ st a { w with drawn:=w.drawn+1 }:=hr.quiet rfl rfl rfl rfl
 have alt:∀(i:Nat) (p:bY) (st:St),cP ⟨P,nt,w0,I0,F0⟩ τ ts gs ops (bif Nat.testBit EM i then .eS i (j5 EM LM p) else (j5 EM LM p).push i) st (K .normal) →
   wQ ⟨P,nt,w0,I0,F0⟩ τ ts gs ops EM i st fun st=>cP ⟨P,nt,w0,I0,F0⟩ τ ts gs ops (j5 EM LM p) st (K .normal):=fun i p st h=>by
  unfold wQ
  cases hb:Nat.testBit EM i with
  | false =>
   rw[hb] at h
   exact pF h
  | true =>
   rw[hb] at h
   simp only[cond_true] at h ⊢
   unfold cP at h
   cases ho:ops[i]? with
   | none=>rw[ho] at h;exact h
   | some o =>
    rw[ho] at h
    have hnl:=Wy hem i o ho (by rw[Nat.zero_add];exact hb)
    exact(zo h).2 hnl
 have hall:=(RH (Q:=fun e a w=>e=.normal∧∃st',K .normal st'∧Rel ⟨P,nt,w0,I0,F0⟩ st' a w) (EM:=EM) (ts:=ts) (v:=fun t=>a.tmps.getD t undef) (PV:=fun p st=>cP ⟨P,nt,w0,I0,F0⟩ τ ts gs ops (j5 EM LM p) st (K .normal)) hτ h2 h1 hfr h3 (fun st a w g1 g2=>⟨rfl,st,g1,g2⟩)
  (fun i p st h=>by
   cases hb:Nat.testBit LM i with
   | false =>
    simp only[j5,hb,cond_false] at h
    refine⟨fun o ho=>?_,pF h⟩
    have:=Kt hlm i o ho
    rw[Nat.zero_add,hb] at this
    unfold ri
    split
    ·rename_i hop;rw[hop] at this;cases this
    ·rfl
   | true =>
    simp only[j5,hb,cond_true] at h
    unfold cP at h
    cases ho:ops[i]? with
    | none=>rw[ho] at h;exact h.elim
    | some o =>
     rw[ho] at h
     have hl:=Kt hlm i o ho
     rw[Nat.zero_add,hb] at hl
     have h:=(zo h).1 hl.symm
     exact⟨fun o' ho'=>by cases ho';exact h.1,pF h.2⟩) (fun l st h=>h) (fun i p r st h=>by
   cases r with
   | nil=>exact⟨alt i p st h,trivial⟩
   | _=>exact⟨alt i p st h.1,h.2⟩) (fun _ _ _ _ _ h=>by cases h.1) p).1
  (Array.replicate ops.length false) ops.length st a _ h4 (Nat.le_of_ble_eq_true h5) (sK (AL EM hT) p _ 0 ⟨by simp,fun j=>by rw[jG];simp[Array.getElem?_replicate];split<;>rfl⟩ (fun i hi=>by cases p<;>simp[bY.alts,bY.gD] at hi h4) h6) h hr' (fun t _=>rfl)
 have GW:(Code.region id ops.toArray true).wp P (fun e a w=>e=.normal∧∃st',K .normal st'∧Rel ⟨P,nt,w0,I0,F0⟩ st' a w) a w:=wp_region_any hm (by simpa using wG _ _ _ _ hall)
 refine wp_mono GW fun e a w hq=>?_
 obtain⟨he,st',g1,g2⟩:=hq
 subst he
 exact⟨st',g1,g2⟩
theorem VS.Q7{l:List Code}{K:Exit→St→Prop}{st:St}{P:Program}{nt:Nat}{w0:World}{I0:Nat→Prop}{F0:List G}{τ:bg}(hτ:bg.Ok P τ)(hm:P.follows .mixedOrders=true)(id:Nat){ops:List Oper}(ts:List Tmp)(EM LM:Nat)(pre post:List Tmp)(gs:List (Nat×Tmp))(T:List Rw)(p:bY)(o:OP)
  (h:cP ⟨P,nt,w0,I0,F0⟩ τ ts gs ops o (st.keep pre) (uX ⟨P,nt,w0,I0,F0⟩ l K post))
  (hT:ops.map (rowOf ops.toArray)=T) (hok:gm EM nt ops gs T p=true) (ho:j5 EM LM p=o) (hfr:wo ts ops=true) (hlm:LL LM ops 0=true) (hem:LN EM ops 0=true):VS ⟨P,nt,w0,I0,F0⟩ (.region id ops.toArray true::l) K st:=by
 refine VS.tW id pre ?_
 rw[jN]
 exact VC.kX (VC.aao hτ hm ts EM LM gs T p o hT hok ho hfr hlm hem h)
theorem Ar:(∀(c:Cx) (τ:bg) (ts:List Tmp) (gs:List (Nat×Tmp)) (ops:List Oper) (l:List Nat) (p:OP) (st:St) (K:St→Prop),cP c τ ts gs ops (.run l p) st K=jq c τ gs (fQ ops l) st fun st=>cP c τ ts gs ops p st K) ∧
  (∀(c:Cx) (τ:bg) (ts:List Tmp) (gs:List (Nat×Tmp)) (ops:List Oper) (p q:OP) (st:St) (K:St→Prop),cP c τ ts gs ops (.both p q) st K=(cP c τ ts gs ops p st K∧cP c τ ts gs ops q st K)) ∧
  (∀(c:Cx) (τ:bg) (ts:List Tmp) (gs:List (Nat×Tmp)) (ops:List Oper) (i:Nat) (p:OP) (st:St) (K:St→Prop),cP c τ ts gs ops (.eS i p) st K=DO c τ ts gs i (ops[i]?) st fun st=>cP c τ ts gs ops p st K) ∧
  (∀(c:Cx) (τ:bg) (ts:List Tmp) (gs:List (Nat×Tmp)) (ops:List Oper) (st:St) (K:St→Prop),cP c τ ts gs ops .done st K=K st) ∧
  (∀(c:Cx) (τ:bg) (ts:List Tmp) (gs:List (Nat×Tmp)) (ops:List Oper) (st:St) (K:St→Prop),cP c τ ts gs ops .yes st K=True) ∧
  (∀ops:List Oper,fQ ops []=[])∧(∀(ops:List Oper) (i:Nat) (l:List Nat),fQ ops (i::l)=(i,ops[i]?)::fQ ops l) ∧
  (∀(a:Oper) (l:List Oper),(a::l)[0]? = some a)∧∀(a:Oper) (l:List Oper) (n:Nat),(a::l)[n+1]? = l[n]? :=
 ⟨fun _ _ _ _ _ _ _ _ _=>by rw[cP],fun _ _ _ _ _ _ _ _ _=>by rw[cP],fun _ _ _ _ _ _ _ _ _=>by rw[cP],fun _ _ _ _ _ _ _=>by rw[cP],fun _ _ _ _ _ _ _=>by rw[cP],fun _=>rfl,fun _ _ _=>rfl,fun _ _=>rfl,fun _ _ _=>rfl⟩
section
variable {c:Cx} {τ:bg} {ts:List Tmp} {gs:List (Nat×Tmp)} {i:Nat} {st:St} {K:St→Prop} {dst:Option Tmp} {ty:TypeId} {pos:String} {after:Array Edge}
theorem L4{t:TypeId}{x:Operand}{g:Option (Nat×Bool)}:DO c τ ts gs i (some ⟨dst,.load t x,ty,pos,after,g⟩) st K=(wJ (sH ts st) (st.ev x)=true∧K st):=rfl
theorem L5{f:Operand}{xs:List Operand}{tys:List TypeId}:DO c τ ts gs i (some ⟨dst,.call ⟨.value f,xs.toArray,tys.toArray⟩,ty,pos,after,none⟩) st K=az (st.ev f) fun f=>match f with
  | .fn h s=>(s.cI=true∧DG ts st=true)∧wM c h ((jF τ st xs tys).app s) (sH ts st) st fun av st'=>eO gs i dst av st' K
  | _=>False:=by
 simp only[DO,wO,az,true_and]
end
attribute [irreducible] wM
@[congr] theorem YR{c:Cx}{f f':FuncId}{me DP:AV}{ks ks':List Nat}{st st':St}{K:AV→St→Prop}(h0:tick f=f')(h1:me=DP)(h3:ks=ks')(h2:st=st'):wM c f me ks st K=wM c f' DP ks' st' K:=by
 rw[bl] at h0;subst h0;subst h1;subst h2;subst h3;rfl
@[congr] theorem aap{c:Cx}{τ:bg}{ts:List Tmp}{gs:List (Nat×Tmp)}{i:Nat}{o:Option Oper}{st st':St}{K:St→Prop}(h:tick st=st'):DO c τ ts gs i o st K=DO c τ ts gs i o st' K:=by rw[bl] at h;rw[h]
def DQ:=@L4
def DR:=@L5
def RJ:=@GU.eq_1
def RL:=@GU.eq_2
def DS:=@qf.eq_1
def GX:=@AJ.eq_1
def RM:=@DG.eq_1
def RN:=@DG.eq_2
def RO:=@sH.eq_1
def RP:=@sH.eq_2
def RQ:=@ye.eq_1
def RR:=@ye.eq_2
def GY:=@wJ.eq_1
def L6:=@wN.eq_1
def L7:=@wN.eq_2
attribute [simp] DQ DR RJ RL DS GX RM RN RO RP RQ RR GY L6 L7
end Go.Vc

namespace Go.Proofs.YtbhigdljojlhnaaGreat
set_option linter.all false
open Go Go.Vc Go.Proofs
section
variable {nt:Nat} {w0:World} {I0:Nat→Prop} {F0:List G} {l:List Code} {K:Exit→St→Prop} {st:St}
theorem Q7(id:Nat){ops:List Oper}(ts:List Tmp)(EM LM:Nat)(pre post:List Tmp)(gs:List (Nat×Tmp))(T:List Rw)(p:bY)(o:OP)
  (h:cP ⟨Tryz.prog,nt,w0,I0,F0⟩ cn ts gs ops o (st.keep pre) (uX ⟨Tryz.prog,nt,w0,I0,F0⟩ l K post))
  (hT:ops.map (rowOf ops.toArray)=T:=by kernel_rfl) (hok:gm EM nt ops gs T p=true:=by kernel_rfl) (ho:j5 EM LM p=o:=by kernel_rfl) (hfr:wo ts ops=true:=by kernel_rfl) (hlm:LL LM ops 0=true:=by kernel_rfl) (hem:LN EM ops 0=true:=by kernel_rfl):VS ⟨Tryz.prog,nt,w0,I0,F0⟩ (.region id ops.toArray true::l) K st:=VS.Q7 iA vk id ts EM LM pre post gs T p o h hT hok ho hfr hlm hem
end
end Go.Proofs.YtbhigdljojlhnaaGreat

namespace Go.Proofs.YtbhigdljojlhnaaGreat
set_option linter.all false
open Go.Vc Go.Proofs
set_option maxRecDepth 100000
set_option maxHeartbeats 4000000
attribute [local irreducible] bx jv
abbrev sy (d:bT):AV:=.agg (.cons (ag d.op) (.cons (ag d.a) (.cons (ag d.b) (.cons (ag d.c) (.cons (ag d.d) (.cons (ag d.n) (.cons (ag d.m) (.cons (.val (.string d.name)) .nil))))))))
def fc (c:Nat) (s:Mt) (d:bT) (av:AV) (X:List D) (κ:List (Nat×Path)):Prop :=
 ∃r',TR (c+1) (jV s d) r'∧av=aN true∧X=[au true (jV s d),aA r']∧κ=[(0,[.d]),(1,[.d])]
theorem ZV{c:Nat}{s:Mt}{r:Rt}(h:aR s)(T:TR c s r)(hc:c≤1000)(d:bT)(hd:d.op=0) :
  ai Tryz.prog 19 [au true s,aA r] (.cons (FM 0 1) (.cons (sy d) .nil)) (fc c s d):=by
 have hN:nameOf d.n d.name=d.nm:=rfl
 have hM:nameOf d.m d.name=d.old:=rfl
 have tj:jV s d=(bt s d.a d.nm d.c d.d).1:=by unfold jV;rw[hd];rfl
 unfold fc
 rw[tj]
 have h1:=tQ h d.a d.nm d.c d.d
 have h2:=Gu T (by omega) d.a d.nm d.c d.d
 generalize bt s d.a d.nm d.c d.d=res at *
 refine fb Tryz.func19 Tryz.ntmps19 [.tmp 4] fun w0 I0 F0 hF=>?_
 repeat first|refine n1 ?_|(first|refine rg 0 [0,1] [2,3] [] ?_|refine rg 1 [2,3] [2,3,5] [] ?_);simp[hF,au,dL,aA,dR]
 refine(bL d.n d.name).go [] (by simp[hF,hN]) ?_;rintro av X κ ⟨rfl,rfl,rfl⟩;simp[hF,hN]
 repeat first|refine n1 ?_|refine rg 2 [2,3,5] [2,3,5,6] [] ?_;simp[hF]
 refine(bL d.m d.name).go [] (by simp[hF,hM]) ?_;rintro av X κ ⟨rfl,rfl,rfl⟩;simp[hF,hM]
 repeat first|refine n1 ?_|refine rg 3 [2,3,5,6] [2,3,5,6,7] [] ?_;simp[hF]
 refine(bX true s).go [(0,[])] (by simp[hF,au,dL]) ?_;rintro av X κ ⟨rfl,rfl,rfl⟩;simp[hF,au,dL]
 repeat first|refine n1 ?_|refine n2 ?_|refine n3 ?_|(first|refine rg 4 [2,3,5,6,7] [2,3,5,6,7,34] [] ?_|refine rg 6 [2,3,5,6,7] [2,3,5,6,7,36] [] ?_|refine rg 7 [2,3,5,6,7,36] [2,3,5,6,7,36,37] [] ?_|(refine Q7 8 [2,3] 524800 338250 [2,3,5] [4] [] [⟨0,4,549755813888,5⟩,⟨1,549755813888,1099511627776,6⟩,⟨0,8,2199023255552,5⟩,⟨4,2199023255552,4398046511104,6⟩,⟨0,32,8796093022208,5⟩,⟨0,8,17592186044416,5⟩,⟨32,17592186044416,35184372088832,6⟩,⟨0,8,70368744177664,5⟩,⟨128,70368744177664,140737488355328,6⟩,⟨346,190215511605248,281474976710656,0⟩,⟨0,4,562949953421312,5⟩,⟨1024,562949953421312,1125899906842624,6⟩,⟨0,8,2251799813685248,5⟩,⟨4096,2251799813685248,4503599627370496,6⟩,⟨0,32,9007199254740992,5⟩,⟨0,8,18014398509481984,5⟩,⟨32768,18014398509481984,36028797018963968,6⟩,⟨0,8,72057594037927936,5⟩,⟨131072,72057594037927936,144115188075855872,6⟩,⟨354816,194780683883773952,288230376151711744,0⟩,⟨524800,288511851128422400,576460752303423488,5⟩,⟨2097151,576460752303423488,16,5⟩] (.take 0 (.take 1 (.take 2 (.take 3 (.take 4 (.take 5 (.take 6 (.take 7 (.take 8 (.take 10 (.take 11 (.take 12 (.take 13 (.take 14 (.take 15 (.take 16 (.take 17 (.take 18 (.fork (.alt 9 (.fork (.alt 19 (.take 20 (.take 21 (.done))) (.nil))) (.nil))))))))))))))))))))) (.run [0] (.eS 1 (.run [1,2] (.eS 3 (.run [3,4,5] (.eS 6 (.run [6,7] (.eS 8 (.run [8,10] (.eS 11 (.run [11,12] (.eS 13 (.run [13,14,15] (.eS 16 (.run [16,17] (.eS 18 (.run [18] (.eS 9 (.eS 19 (.run [20,21] (.done))))))))))))))))))))) ?_;simp only[Ar])|refine nc ?_);simp[hF,hd]
 refine(h1).Ci [(0,[])] (by simp[hF,au,dL]) ?_;rintro av X κ ⟨rfl,rfl,rfl⟩;simp[hF,au,dL]
 refine(h2).Ci [(1,[])] (by simp[hF,aA,dR]) ?_;rintro av X κ ⟨r',hT,rfl,rfl,rfl⟩;simp[hF,aA,dR]
 repeat refine n1 ?_
 (try refine nr ?_);(repeat first|refine aF ?_|refine aG ?_);refine ak.o [4] [0,1] [(0,[.d]),(1,[.d])] ?_;simp[hF,an,aa,ah,au,dL,aA,dR]
 exact⟨r',hT,rfl,rfl,rfl⟩
theorem ZW{c:Nat}{s:Mt}{r:Rt}(h:aR s)(T:TR c s r)(hc:c≤1000)(d:bT)(hd:d.op=1) :
  ai Tryz.prog 19 [au true s,aA r] (.cons (FM 0 1) (.cons (sy d) .nil)) (fc c s d):=by
 have hN:nameOf d.n d.name=d.nm:=rfl
 have hM:nameOf d.m d.name=d.old:=rfl
 have tj:jV s d=(cC s d.a d.b d.nm d.c).1:=by unfold jV;rw[hd];rfl
 unfold fc
 rw[tj]
 have h1:=zb h d.a d.b d.nm d.c
 have h2:=Gv T (by omega) d.a d.b d.nm d.c
 generalize cC s d.a d.b d.nm d.c=res at *
 refine fb Tryz.func19 Tryz.ntmps19 [.tmp 4] fun w0 I0 F0 hF=>?_
 repeat first|refine n1 ?_|(first|refine rg 0 [0,1] [2,3] [] ?_|refine rg 1 [2,3] [2,3,5] [] ?_);simp[hF,au,dL,aA,dR]
 refine(bL d.n d.name).go [] (by simp[hF,hN]) ?_;rintro av X κ ⟨rfl,rfl,rfl⟩;simp[hF,hN]
 repeat first|refine n1 ?_|refine rg 2 [2,3,5] [2,3,5,6] [] ?_;simp[hF]
 refine(bL d.m d.name).go [] (by simp[hF,hM]) ?_;rintro av X κ ⟨rfl,rfl,rfl⟩;simp[hF,hM]
 repeat first|refine n1 ?_|refine rg 3 [2,3,5,6] [2,3,5,6,7] [] ?_;simp[hF]
 refine(bX true s).go [(0,[])] (by simp[hF,au,dL]) ?_;rintro av X κ ⟨rfl,rfl,rfl⟩;simp[hF,au,dL]
 repeat first|refine n1 ?_|refine n2 ?_|refine n3 ?_|(first|refine rg 4 [2,3,5,6,7] [2,3,5,6,7,34] [] ?_|refine rg 6 [2,3,5,6,7] [2,3,5,6,7,36] [] ?_|refine rg 7 [2,3,5,6,7,36] [2,3,5,6,7,36,37] [] ?_|refine rg 9 [2,3,5,6,7,36] [2,3,5,6,7,36,60] [] ?_|(refine Q7 10 [2,3] 524800 305450 [2,3,5] [4] [] [⟨0,4,4611686018427387904,5⟩,⟨1,4611686018427387904,9223372036854775808,6⟩,⟨0,8,18446744073709551616,5⟩,⟨4,18446744073709551616,36893488147419103232,6⟩,⟨0,8,73786976294838206464,5⟩,⟨16,73786976294838206464,147573952589676412928,6⟩,⟨0,32,295147905179352825856,5⟩,⟨0,8,590295810358705651712,5⟩,⟨128,590295810358705651712,1180591620717411303424,6⟩,⟨362,1669430338670714421248,2361183241434822606848,0⟩,⟨0,4,4722366482869645213696,5⟩,⟨1024,4722366482869645213696,9444732965739290427392,6⟩,⟨0,8,18889465931478580854784,5⟩,⟨4096,18889465931478580854784,37778931862957161709568,6⟩,⟨0,8,75557863725914323419136,5⟩,⟨16384,75557863725914323419136,151115727451828646838272,6⟩,⟨0,32,302231454903657293676544,5⟩,⟨0,8,604462909807314587353088,5⟩,⟨131072,604462909807314587353088,1208925819614629174706176,6⟩,⟨371200,1709496666798811567357952,2417851639229258349412352,0⟩,⟨524800,2420212822470693172019200,4835703278458516698824704,5⟩,⟨2097151,4835703278458516698824704,16,5⟩] (.take 0 (.take 1 (.take 2 (.take 3 (.take 4 (.take 5 (.take 6 (.take 7 (.take 8 (.take 10 (.take 11 (.take 12 (.take 13 (.take 14 (.take 15 (.take 16 (.take 17 (.take 18 (.fork (.alt 9 (.fork (.alt 19 (.take 20 (.take 21 (.done))) (.nil))) (.nil))))))))))))))))))))) (.run [0] (.eS 1 (.run [1,2] (.eS 3 (.run [3,4] (.eS 5 (.run [5,6,7] (.eS 8 (.run [8,10] (.eS 11 (.run [11,12] (.eS 13 (.run [13,14] (.eS 15 (.run [15,16,17] (.eS 18 (.run [18] (.eS 9 (.eS 19 (.run [20,21] (.done))))))))))))))))))))) ?_;simp only[Ar])|refine nc ?_);simp[hF,hd]
 refine(h1).Ci [(0,[])] (by simp[hF,au,dL]) ?_;rintro av X κ ⟨rfl,rfl,rfl⟩;simp[hF,au,dL]
 refine(h2).Ci [(1,[])] (by simp[hF,aA,dR]) ?_;rintro av X κ ⟨r',hT,rfl,rfl,rfl⟩;simp[hF,aA,dR]
 repeat refine n1 ?_
 (try refine nr ?_);(repeat first|refine aF ?_|refine aG ?_);refine ak.o [4] [0,1] [(0,[.d]),(1,[.d])] ?_;simp[hF,an,aa,ah,au,dL,aA,dR]
 exact⟨r',hT,rfl,rfl,rfl⟩
theorem ZX{c:Nat}{s:Mt}{r:Rt}(h:aR s)(T:TR c s r)(hc:c≤1000)(d:bT)(hd:d.op=2) :
  ai Tryz.prog 19 [au true s,aA r] (.cons (FM 0 1) (.cons (sy d) .nil)) (fc c s d):=by
 have hN:nameOf d.n d.name=d.nm:=rfl
 have hM:nameOf d.m d.name=d.old:=rfl
 have tj:jV s d=(cq s d.a d.nm).1:=by unfold jV;rw[hd];rfl
 unfold fc
 rw[tj]
 have h1:=uD h d.a d.nm
 have h2:=Ap h T (by omega) d.a d.nm
 generalize cq s d.a d.nm=res at *
 refine fb Tryz.func19 Tryz.ntmps19 [.tmp 4] fun w0 I0 F0 hF=>?_
 repeat first|refine n1 ?_|(first|refine rg 0 [0,1] [2,3] [] ?_|refine rg 1 [2,3] [2,3,5] [] ?_);simp[hF,au,dL,aA,dR]
 refine(bL d.n d.name).go [] (by simp[hF,hN]) ?_;rintro av X κ ⟨rfl,rfl,rfl⟩;simp[hF,hN]
 repeat first|refine n1 ?_|refine rg 2 [2,3,5] [2,3,5,6] [] ?_;simp[hF]
 refine(bL d.m d.name).go [] (by simp[hF,hM]) ?_;rintro av X κ ⟨rfl,rfl,rfl⟩;simp[hF,hM]
 repeat first|refine n1 ?_|refine rg 3 [2,3,5,6] [2,3,5,6,7] [] ?_;simp[hF]
 refine(bX true s).go [(0,[])] (by simp[hF,au,dL]) ?_;rintro av X κ ⟨rfl,rfl,rfl⟩;simp[hF,au,dL]
 repeat first|refine n1 ?_|refine n2 ?_|refine n3 ?_|(first|refine rg 4 [2,3,5,6,7] [2,3,5,6,7,34] [] ?_|refine rg 6 [2,3,5,6,7] [2,3,5,6,7,36] [] ?_|refine rg 7 [2,3,5,6,7,36] [2,3,5,6,7,36,37] [] ?_|refine rg 9 [2,3,5,6,7,36] [2,3,5,6,7,36,60] [] ?_|refine rg 11 [2,3,5,6,7,36] [2,3,5,6,7,36,83] [] ?_|(refine Q7 12 [2,3] 2080 650 [2,3,5] [4] [] [⟨0,4,38685626227668133590597632,5⟩,⟨1,38685626227668133590597632,77371252455336267181195264,6⟩,⟨0,8,154742504910672534362390528,5⟩,⟨4,154742504910672534362390528,309485009821345068724781056,6⟩,⟨0,32,618970019642690137449562112,5⟩,⟨26,1005826281919371473355538432,1237940039285380274899124224,0⟩,⟨0,4,2475880078570760549798248448,5⟩,⟨64,2475880078570760549798248448,4951760157141521099596496896,6⟩,⟨0,8,9903520314283042199192993792,5⟩,⟨256,9903520314283042199192993792,19807040628566084398385987584,6⟩,⟨0,32,39614081257132168796771975168,5⟩,⟨1696,64372882042839774294754459648,79228162514264337593543950336,0⟩,⟨2080,80466102553549717868443074560,158456325028528675187087900672,5⟩,⟨8191,158456325028528675187087900672,16,5⟩] (.take 0 (.take 1 (.take 2 (.take 3 (.take 4 (.take 6 (.take 7 (.take 8 (.take 9 (.take 10 (.fork (.alt 5 (.fork (.alt 11 (.take 12 (.take 13 (.done))) (.nil))) (.nil))))))))))))) (.run [0] (.eS 1 (.run [1,2] (.eS 3 (.run [3,4,6] (.eS 7 (.run [7,8] (.eS 9 (.run [9,10] (.eS 5 (.eS 11 (.run [12,13] (.done))))))))))))) ?_;simp only[Ar])|refine nc ?_);simp[hF,hd]
 refine(h1).Ci [(0,[])] (by simp[hF,au,dL]) ?_;rintro av X κ ⟨rfl,rfl,rfl⟩;simp[hF,au,dL]
 refine(h2).Ci [(1,[])] (by simp[hF,aA,dR]) ?_;rintro av X κ ⟨r',hT,rfl,rfl,rfl⟩;simp[hF,aA,dR]
 repeat refine n1 ?_
 (try refine nr ?_);(repeat first|refine aF ?_|refine aG ?_);refine ak.o [4] [0,1] [(0,[.d]),(1,[.d])] ?_;simp[hF,an,aa,ah,au,dL,aA,dR]
 exact⟨r',hT,rfl,rfl,rfl⟩
theorem ZY{c:Nat}{s:Mt}{r:Rt}(h:aR s)(T:TR c s r)(hc:c≤1000)(d:bT)(hd:d.op=3) :
  ai Tryz.prog 19 [au true s,aA r] (.cons (FM 0 1) (.cons (sy d) .nil)) (fc c s d):=by
 have hN:nameOf d.n d.name=d.nm:=rfl
 have hM:nameOf d.m d.name=d.old:=rfl
 have tj:jV s d=(bf s d.a d.nm).1:=by unfold jV;rw[hd];rfl
 unfold fc
 rw[tj]
 have h1:=zc h d.a d.nm
 have h2:=Gx h T (by omega) d.a d.nm
 generalize bf s d.a d.nm=res at *
 refine fb Tryz.func19 Tryz.ntmps19 [.tmp 4] fun w0 I0 F0 hF=>?_
 repeat first|refine n1 ?_|(first|refine rg 0 [0,1] [2,3] [] ?_|refine rg 1 [2,3] [2,3,5] [] ?_);simp[hF,au,dL,aA,dR]
 refine(bL d.n d.name).go [] (by simp[hF,hN]) ?_;rintro av X κ ⟨rfl,rfl,rfl⟩;simp[hF,hN]
 repeat first|refine n1 ?_|refine rg 2 [2,3,5] [2,3,5,6] [] ?_;simp[hF]
 refine(bL d.m d.name).go [] (by simp[hF,hM]) ?_;rintro av X κ ⟨rfl,rfl,rfl⟩;simp[hF,hM]
 repeat first|refine n1 ?_|refine rg 3 [2,3,5,6] [2,3,5,6,7] [] ?_;simp[hF]
 refine(bX true s).go [(0,[])] (by simp[hF,au,dL]) ?_;rintro av X κ ⟨rfl,rfl,rfl⟩;simp[hF,au,dL]
 repeat first|refine n1 ?_|refine n2 ?_|refine n3 ?_|(first|refine rg 4 [2,3,5,6,7] [2,3,5,6,7,34] [] ?_|refine rg 6 [2,3,5,6,7] [2,3,5,6,7,36] [] ?_|refine rg 7 [2,3,5,6,7,36] [2,3,5,6,7,36,37] [] ?_|refine rg 9 [2,3,5,6,7,36] [2,3,5,6,7,36,60] [] ?_|refine rg 11 [2,3,5,6,7,36] [2,3,5,6,7,36,83] [] ?_|refine rg 13 [2,3,5,6,7,36] [2,3,5,6,7,36,98] [] ?_|(refine Q7 14 [2,3] 2080 650 [2,3,5] [4] [] [⟨0,4,1267650600228229401496703205376,5⟩,⟨1,1267650600228229401496703205376,2535301200456458802993406410752,6⟩,⟨0,8,5070602400912917605986812821504,5⟩,⟨4,5070602400912917605986812821504,10141204801825835211973625643008,6⟩,⟨0,32,20282409603651670423947251286016,5⟩,⟨26,32958915605933964438914283339776,40564819207303340847894502572032,0⟩,⟨0,4,81129638414606681695789005144064,5⟩,⟨64,81129638414606681695789005144064,162259276829213363391578010288128,6⟩,⟨0,8,324518553658426726783156020576256,5⟩,⟨256,324518553658426726783156020576256,649037107316853453566312041152512,6⟩,⟨0,32,1298074214633706907132624082305024,5⟩,⟨1696,2109370598779773724090514133745664,2596148429267413814265248164610048,0⟩,⟨2080,2636713248474717155113142667182080,5192296858534827628530496329220096,5⟩,⟨8191,5192296858534827628530496329220096,16,5⟩] (.take 0 (.take 1 (.take 2 (.take 3 (.take 4 (.take 6 (.take 7 (.take 8 (.take 9 (.take 10 (.fork (.alt 5 (.fork (.alt 11 (.take 12 (.take 13 (.done))) (.nil))) (.nil))))))))))))) (.run [0] (.eS 1 (.run [1,2] (.eS 3 (.run [3,4,6] (.eS 7 (.run [7,8] (.eS 9 (.run [9,10] (.eS 5 (.eS 11 (.run [12,13] (.done))))))))))))) ?_;simp only[Ar])|refine nc ?_);simp[hF,hd]
 refine(h1).Ci [(0,[])] (by simp[hF,au,dL]) ?_;rintro av X κ ⟨rfl,rfl,rfl⟩;simp[hF,au,dL]
 refine(h2).Ci [(1,[])] (by simp[hF,aA,dR]) ?_;rintro av X κ ⟨r',hT,rfl,rfl,rfl⟩;simp[hF,aA,dR]
 repeat refine n1 ?_
 (try refine nr ?_);(repeat first|refine aF ?_|refine aG ?_);refine ak.o [4] [0,1] [(0,[.d]),(1,[.d])] ?_;simp[hF,an,aa,ah,au,dL,aA,dR]
 exact⟨r',hT,rfl,rfl,rfl⟩
theorem ZZ{c:Nat}{s:Mt}{r:Rt}(h:aR s)(T:TR c s r)(hc:c≤1000)(d:bT)(hd:d.op=4) :
  ai Tryz.prog 19 [au true s,aA r] (.cons (FM 0 1) (.cons (sy d) .nil)) (fc c s d):=by
 have hN:nameOf d.n d.name=d.nm:=rfl
 have hM:nameOf d.m d.name=d.old:=rfl
 have tj:jV s d=(aliasOf s d.a d.nm d.old).1:=by unfold jV;rw[hd];rfl
 unfold fc
 rw[tj]
 have h1:=Q8 h d.a d.nm d.old
 have h2:=Lt h T (by omega) d.a d.nm d.old
 generalize aliasOf s d.a d.nm d.old=res at *
 refine fb Tryz.func19 Tryz.ntmps19 [.tmp 4] fun w0 I0 F0 hF=>?_
 repeat first|refine n1 ?_|(first|refine rg 0 [0,1] [2,3] [] ?_|refine rg 1 [2,3] [2,3,5] [] ?_);simp[hF,au,dL,aA,dR]
 refine(bL d.n d.name).go [] (by simp[hF,hN]) ?_;rintro av X κ ⟨rfl,rfl,rfl⟩;simp[hF,hN]
 repeat first|refine n1 ?_|refine rg 2 [2,3,5] [2,3,5,6] [] ?_;simp[hF]
 refine(bL d.m d.name).go [] (by simp[hF,hM]) ?_;rintro av X κ ⟨rfl,rfl,rfl⟩;simp[hF,hM]
 repeat first|refine n1 ?_|refine rg 3 [2,3,5,6] [2,3,5,6,7] [] ?_;simp[hF]
 refine(bX true s).go [(0,[])] (by simp[hF,au,dL]) ?_;rintro av X κ ⟨rfl,rfl,rfl⟩;simp[hF,au,dL]
 repeat first|refine n1 ?_|refine n2 ?_|refine n3 ?_|(first|refine rg 4 [2,3,5,6,7] [2,3,5,6,7,34] [] ?_|refine rg 6 [2,3,5,6,7] [2,3,5,6,7,36] [] ?_|refine rg 7 [2,3,5,6,7,36] [2,3,5,6,7,36,37] [] ?_|refine rg 9 [2,3,5,6,7,36] [2,3,5,6,7,36,60] [] ?_|refine rg 11 [2,3,5,6,7,36] [2,3,5,6,7,36,83] [] ?_|refine rg 13 [2,3,5,6,7,36] [2,3,5,6,7,36,98] [] ?_|refine rg 15 [2,3,5,6,7,36] [2,3,5,6,7,36,113] [] ?_|(refine Q7 16 [2,3] 8256 1290 [2,3,5,6] [4] [] [⟨0,4,41538374868278621028243970633760768,5⟩,⟨1,41538374868278621028243970633760768,83076749736557242056487941267521536,6⟩,⟨0,8,166153499473114484112975882535043072,5⟩,⟨4,166153499473114484112975882535043072,332306998946228968225951765070086144,6⟩,⟨0,32,664613997892457936451903530140172288,5⟩,⟨0,64,1329227995784915872903807060280344576,5⟩,⟨58,2409225742360160019638150296758124544,2658455991569831745807614120560689152,0⟩,⟨0,4,5316911983139663491615228241121378304,5⟩,⟨128,5316911983139663491615228241121378304,10633823966279326983230456482242756608,6⟩,⟨0,8,21267647932558653966460912964485513216,5⟩,⟨512,21267647932558653966460912964485513216,42535295865117307932921825928971026432,6⟩,⟨0,32,85070591730234615865843651857942052864,5⟩,⟨0,64,170141183460469231731687303715884105728,5⟩,⟨7488,308380895022100482513683237985039941632,340282366920938463463374607431768211456,0⟩,⟨8256,342940822912508295209182221552328900608,680564733841876926926749214863536422912,5⟩,⟨32767,680564733841876926926749214863536422912,16,5⟩] (.take 0 (.take 1 (.take 2 (.take 3 (.take 4 (.take 5 (.take 7 (.take 8 (.take 9 (.take 10 (.take 11 (.take 12 (.fork (.alt 6 (.fork (.alt 13 (.take 14 (.take 15 (.done))) (.nil))) (.nil))))))))))))))) (.run [0] (.eS 1 (.run [1,2] (.eS 3 (.run [3,4,5,7] (.eS 8 (.run [8,9] (.eS 10 (.run [10,11,12] (.eS 6 (.eS 13 (.run [14,15] (.done))))))))))))) ?_;simp only[Ar])|refine nc ?_);simp[hF,hd]
 refine(h1).Ci [(0,[])] (by simp[hF,au,dL]) ?_;rintro av X κ ⟨rfl,rfl,rfl⟩;simp[hF,au,dL]
 refine(h2).Ci [(1,[])] (by simp[hF,aA,dR]) ?_;rintro av X κ ⟨r',hT,rfl,rfl,rfl⟩;simp[hF,aA,dR]
 repeat refine n1 ?_
 (try refine nr ?_);(repeat first|refine aF ?_|refine aG ?_);refine ak.o [4] [0,1] [(0,[.d]),(1,[.d])] ?_;simp[hF,an,aa,ah,au,dL,aA,dR]
 exact⟨r',hT,rfl,rfl,rfl⟩
theorem Z0{c:Nat}{s:Mt}{r:Rt}(h:aR s)(T:TR c s r)(hc:c≤1000)(d:bT)(hd:d.op=5) :
  ai Tryz.prog 19 [au true s,aA r] (.cons (FM 0 1) (.cons (sy d) .nil)) (fc c s d):=by
 have hN:nameOf d.n d.name=d.nm:=rfl
 have hM:nameOf d.m d.name=d.old:=rfl
 have tj:jV s d=(eD s d.a d.nm d.c).1:=by unfold jV;rw[hd];rfl
 unfold fc
 rw[tj]
 have h1:=Wa h d.a d.nm d.c
 have h2:=Q4 h T (by omega) d.a d.nm d.c
 generalize eD s d.a d.nm d.c=res at *
 refine fb Tryz.func19 Tryz.ntmps19 [.tmp 4] fun w0 I0 F0 hF=>?_
 repeat first|refine n1 ?_|(first|refine rg 0 [0,1] [2,3] [] ?_|refine rg 1 [2,3] [2,3,5] [] ?_);simp[hF,au,dL,aA,dR]
 refine(bL d.n d.name).go [] (by simp[hF,hN]) ?_;rintro av X κ ⟨rfl,rfl,rfl⟩;simp[hF,hN]
 repeat first|refine n1 ?_|refine rg 2 [2,3,5] [2,3,5,6] [] ?_;simp[hF]
 refine(bL d.m d.name).go [] (by simp[hF,hM]) ?_;rintro av X κ ⟨rfl,rfl,rfl⟩;simp[hF,hM]
 repeat first|refine n1 ?_|refine rg 3 [2,3,5,6] [2,3,5,6,7] [] ?_;simp[hF]
 refine(bX true s).go [(0,[])] (by simp[hF,au,dL]) ?_;rintro av X κ ⟨rfl,rfl,rfl⟩;simp[hF,au,dL]
 repeat first|refine n1 ?_|refine n2 ?_|refine n3 ?_|(first|refine rg 4 [2,3,5,6,7] [2,3,5,6,7,34] [] ?_|refine rg 6 [2,3,5,6,7] [2,3,5,6,7,36] [] ?_|refine rg 7 [2,3,5,6,7,36] [2,3,5,6,7,36,37] [] ?_|refine rg 9 [2,3,5,6,7,36] [2,3,5,6,7,36,60] [] ?_|refine rg 11 [2,3,5,6,7,36] [2,3,5,6,7,36,83] [] ?_|refine rg 13 [2,3,5,6,7,36] [2,3,5,6,7,36,98] [] ?_|refine rg 15 [2,3,5,6,7,36] [2,3,5,6,7,36,113] [] ?_|refine rg 17 [2,3,5,7,36] [2,3,5,7,36,130] [] ?_|(refine Q7 18 [2,3] 32896 19018 [2,3,5] [4] [] [⟨0,4,5444517870735015415413993718908291383296,5⟩,⟨1,5444517870735015415413993718908291383296,10889035741470030830827987437816582766592,6⟩,⟨0,8,21778071482940061661655974875633165533184,5⟩,⟨4,21778071482940061661655974875633165533184,43556142965880123323311949751266331066368,6⟩,⟨0,32,87112285931760246646623899502532662132736,5⟩,⟨0,8,174224571863520493293247799005065324265472,5⟩,⟨32,174224571863520493293247799005065324265472,348449143727040986586495598010130648530944,6⟩,⟨90,490006608366151387387259434701746224496640,696898287454081973172991196020261297061888,0⟩,⟨0,4,1393796574908163946345982392040522594123776,5⟩,⟨256,1393796574908163946345982392040522594123776,2787593149816327892691964784081045188247552,6⟩,⟨0,8,5575186299632655785383929568162090376495104,5⟩,⟨1024,5575186299632655785383929568162090376495104,11150372599265311570767859136324180752990208,6⟩,⟨0,32,22300745198530623141535718272648361505980416,5⟩,⟨0,8,44601490397061246283071436545296723011960832,5⟩,⟨8192,44601490397061246283071436545296723011960832,89202980794122492566142873090593446023921664,6⟩,⟨23168,125441691741734755171138415283647033471139840,178405961588244985132285746181186892047843328,0⟩,⟨32896,179102859875699067105458737377207153344905216,356811923176489970264571492362373784095686656,5⟩,⟨131071,356811923176489970264571492362373784095686656,16,5⟩] (.take 0 (.take 1 (.take 2 (.take 3 (.take 4 (.take 5 (.take 6 (.take 8 (.take 9 (.take 10 (.take 11 (.take 12 (.take 13 (.take 14 (.fork (.alt 7 (.fork (.alt 15 (.take 16 (.take 17 (.done))) (.nil))) (.nil))))))))))))))))) (.run [0] (.eS 1 (.run [1,2] (.eS 3 (.run [3,4,5] (.eS 6 (.run [6,8] (.eS 9 (.run [9,10] (.eS 11 (.run [11,12,13] (.eS 14 (.run [14] (.eS 7 (.eS 15 (.run [16,17] (.done))))))))))))))))) ?_;simp only[Ar])|refine nc ?_);simp[hF,hd]
 refine(h1).Ci [(0,[])] (by simp[hF,au,dL]) ?_;rintro av X κ ⟨rfl,rfl,rfl⟩;simp[hF,au,dL]
 refine(h2).Ci [(1,[])] (by simp[hF,aA,dR]) ?_;rintro av X κ ⟨r',hT,rfl,rfl,rfl⟩;simp[hF,aA,dR]
 repeat refine n1 ?_
 (try refine nr ?_);(repeat first|refine aF ?_|refine aG ?_);refine ak.o [4] [0,1] [(0,[.d]),(1,[.d])] ?_;simp[hF,an,aa,ah,au,dL,aA,dR]
 exact⟨r',hT,rfl,rfl,rfl⟩
theorem Z1{c:Nat}{s:Mt}{r:Rt}(h:aR s)(T:TR c s r)(hc:c≤1000)(d:bT)(hd:d.op=6) :
  ai Tryz.prog 19 [au true s,aA r] (.cons (FM 0 1) (.cons (sy d) .nil)) (fc c s d):=by
 have hN:nameOf d.n d.name=d.nm:=rfl
 have hM:nameOf d.m d.name=d.old:=rfl
 have tj:jV s d=(cD s d.a).1:=by unfold jV;rw[hd];rfl
 unfold fc
 rw[tj]
 have h1:=Lu h d.a
 have h2:=Gw T (by omega) d.a
 generalize cD s d.a=res at *
 refine fb Tryz.func19 Tryz.ntmps19 [.tmp 4] fun w0 I0 F0 hF=>?_
 repeat first|refine n1 ?_|(first|refine rg 0 [0,1] [2,3] [] ?_|refine rg 1 [2,3] [2,3,5] [] ?_);simp[hF,au,dL,aA,dR]
 refine(bL d.n d.name).go [] (by simp[hF,hN]) ?_;rintro av X κ ⟨rfl,rfl,rfl⟩;simp[hF,hN]
 repeat first|refine n1 ?_|refine rg 2 [2,3,5] [2,3,5,6] [] ?_;simp[hF]
 refine(bL d.m d.name).go [] (by simp[hF,hM]) ?_;rintro av X κ ⟨rfl,rfl,rfl⟩;simp[hF,hM]
 repeat first|refine n1 ?_|refine rg 3 [2,3,5,6] [2,3,5,6,7] [] ?_;simp[hF]
 refine(bX true s).go [(0,[])] (by simp[hF,au,dL]) ?_;rintro av X κ ⟨rfl,rfl,rfl⟩;simp[hF,au,dL]
 repeat first|refine n1 ?_|refine n2 ?_|refine n3 ?_|(first|refine rg 4 [2,3,5,6,7] [2,3,5,6,7,34] [] ?_|refine rg 6 [2,3,5,6,7] [2,3,5,6,7,36] [] ?_|refine rg 7 [2,3,5,6,7,36] [2,3,5,6,7,36,37] [] ?_|refine rg 9 [2,3,5,6,7,36] [2,3,5,6,7,36,60] [] ?_|refine rg 11 [2,3,5,6,7,36] [2,3,5,6,7,36,83] [] ?_|refine rg 13 [2,3,5,6,7,36] [2,3,5,6,7,36,98] [] ?_|refine rg 15 [2,3,5,6,7,36] [2,3,5,6,7,36,113] [] ?_|refine rg 17 [2,3,5,7,36] [2,3,5,7,36,130] [] ?_|refine rg 19 [2,3,7,36] [2,3,7,36,149] [] ?_|(refine Q7 20 [2,3] 528 330 [2,3] [4] [] [⟨0,4,2854495385411919762116571938898990272765493248,5⟩,⟨1,2854495385411919762116571938898990272765493248,5708990770823839524233143877797980545530986496,6⟩,⟨0,8,11417981541647679048466287755595961091061972992,5⟩,⟨4,11417981541647679048466287755595961091061972992,22835963083295358096932575511191922182123945984,6⟩,⟨10,28544953854119197621165719388989902727654932480,45671926166590716193865151022383844364247891968,0⟩,⟨0,4,91343852333181432387730302044767688728495783936,5⟩,⟨32,91343852333181432387730302044767688728495783936,182687704666362864775460604089535377456991567872,6⟩,⟨0,8,365375409332725729550921208179070754913983135744,5⟩,⟨128,365375409332725729550921208179070754913983135744,730750818665451459101842416358141509827966271488,6⟩,⟨336,913438523331814323877303020447676887284957839360,1461501637330902918203684832716283019655932542976,0⟩,⟨528,1507173563497493634397549983738666864020180434944,2923003274661805836407369665432566039311865085952,5⟩,⟨2047,2923003274661805836407369665432566039311865085952,16,5⟩] (.take 0 (.take 1 (.take 2 (.take 3 (.take 5 (.take 6 (.take 7 (.take 8 (.fork (.alt 4 (.fork (.alt 9 (.take 10 (.take 11 (.done))) (.nil))) (.nil))))))))))) (.run [0] (.eS 1 (.run [1,2] (.eS 3 (.run [3,5] (.eS 6 (.run [6,7] (.eS 8 (.run [8] (.eS 4 (.eS 9 (.run [10,11] (.done))))))))))))) ?_;simp only[Ar])|refine nc ?_);simp[hF,hd]
 refine(h1).Ci [(0,[])] (by simp[hF,au,dL]) ?_;rintro av X κ ⟨rfl,rfl,rfl⟩;simp[hF,au,dL]
 refine(h2).Ci [(1,[])] (by simp[hF,aA,dR]) ?_;rintro av X κ ⟨r',hT,rfl,rfl,rfl⟩;simp[hF,aA,dR]
 repeat refine n1 ?_
 (try refine nr ?_);(repeat first|refine aF ?_|refine aG ?_);refine ak.o [4] [0,1] [(0,[.d]),(1,[.d])] ?_;simp[hF,an,aa,ah,au,dL,aA,dR]
 exact⟨r',hT,rfl,rfl,rfl⟩
theorem hBI{L:List Th}(h:OK L)(t m:Int):∀t':Nat,t=t'→t'<L.length→val L m=true→(ax L m).kind=1→bh (ax L t).ins m=false→m≠t→bh (aP L m) t=false→∃r,ez (de L t' (m::(ax L t).ins)) r :=
 fun t' e ht hv hk hd _ hh=>by subst e;exact Qm h m t' ht hv hk hd hh
theorem hBP{L:List Th}(h:OK L)(t m:Int):∀t':Nat,t=t'→t'<L.length→val L m=true→(ax L m).kind=1→bh (ax L t).bU m=false→m≠t→bh (aP L m) t=false→∃r,ez (cH L t' (m::(ax L t).bU)) r :=
 fun t' e ht hv hk hd _ hh=>by subst e;exact Qn h m t' ht hv hk hd hh
theorem afQ{L R:List Th}(h:OK L)(l:LR L R)(t m:Int):∀t':Nat,t=t'→t'<R.length→val R m=true→(ax R m).kind=1→bh (ax R t).ins m=false→m≠t→bh (aP R m) t=false→∃r,ez (de R t' (m::(ax R t).ins)) r :=
 fun t' e ht hv hk hd hne hh=>by
  subst e
  rw[l.dX] at hv
  obtain⟨m,rfl,hm⟩:=bD hv
  have ht':t'<L.length:=by rw[←l.len];exact ht
  have h1:=l.th t' ht'
  rw[(l.th m hm).1] at hk
  rw[h1.2.2.2.2] at hd ⊢
  rw[l.rW h.wf hm] at hh
  obtain⟨r,B⟩:=hBI h t' m t' rfl ht' hv hk hd hne hh
  exact⟨r,(l.CQ ht' _).base B⟩
theorem afR{L R:List Th}(h:OK L)(l:LR L R)(t m:Int):∀t':Nat,t=t'→t'<R.length→val R m=true→(ax R m).kind=1→bh (ax R t).bU m=false→m≠t→bh (aP R m) t=false→∃r,ez (cH R t' (m::(ax R t).bU)) r :=
 fun t' e ht hv hk hd hne hh=>by
  subst e
  rw[l.dX] at hv
  obtain⟨m,rfl,hm⟩:=bD hv
  have ht':t'<L.length:=by rw[←l.len];exact ht
  have h1:=l.th t' ht'
  rw[(l.th m hm).1] at hk
  rw[h1.2.2.2.1] at hd ⊢
  rw[l.rW h.wf hm] at hh
  obtain⟨r,B⟩:=hBP h t' m t' rfl ht' hv hk hd hne hh
  exact⟨r,(l.CR ht' _).base B⟩
theorem Z2{c:Nat}{s:Mt}{r:Rt}(h:aR s)(T:TR c s r)(hc:c≤1000)(d:bT)(hd:d.op=7) :
  ai Tryz.prog 19 [au true s,aA r] (.cons (FM 0 1) (.cons (sy d) .nil)) (fc c s d):=by
 have hN:nameOf d.n d.name=d.nm:=rfl
 have hM:nameOf d.m d.name=d.old:=rfl
 have tj:jV s d=iB s (bW s.L d.a).1:=by unfold jV;rw[hd];rfl
 unfold fc
 rw[tj]
 have h1:=CB s.L h.len d.a
 have h2:=K0 r.R (by rw[T.lr.len];exact h.len) d.a
 obtain⟨e1,e2⟩:=T.lr.cls h.ok d.a
 have hT:=(T.Lr e2).le (Nat.le_succ c)
 generalize bW s.L d.a=Wb at *
 generalize bW r.R d.a=Wc at *
 refine fb Tryz.func19 Tryz.ntmps19 [.tmp 4] fun w0 I0 F0 hF=>?_
 repeat first|refine n1 ?_|(first|refine rg 0 [0,1] [2,3] [] ?_|refine rg 1 [2,3] [2,3,5] [] ?_);simp[hF,au,dL,aA,dR]
 refine(bL d.n d.name).go [] (by simp[hF,hN]) ?_;rintro av X κ ⟨rfl,rfl,rfl⟩;simp[hF,hN]
 repeat first|refine n1 ?_|refine rg 2 [2,3,5] [2,3,5,6] [] ?_;simp[hF]
 refine(bL d.m d.name).go [] (by simp[hF,hM]) ?_;rintro av X κ ⟨rfl,rfl,rfl⟩;simp[hF,hM]
 repeat first|refine n1 ?_|refine rg 3 [2,3,5,6] [2,3,5,6,7] [] ?_;simp[hF]
 refine(bX true s).go [(0,[])] (by simp[hF,au,dL]) ?_;rintro av X κ ⟨rfl,rfl,rfl⟩;simp[hF,au,dL]
 repeat first|refine n1 ?_|refine n2 ?_|refine n3 ?_|(first|refine rg 4 [2,3,5,6,7] [2,3,5,6,7,34] [] ?_|refine rg 6 [2,3,5,6,7] [2,3,5,6,7,36] [] ?_|refine rg 7 [2,3,5,6,7,36] [2,3,5,6,7,36,37] [] ?_|refine rg 9 [2,3,5,6,7,36] [2,3,5,6,7,36,60] [] ?_|refine rg 11 [2,3,5,6,7,36] [2,3,5,6,7,36,83] [] ?_|refine rg 13 [2,3,5,6,7,36] [2,3,5,6,7,36,98] [] ?_|refine rg 15 [2,3,5,6,7,36] [2,3,5,6,7,36,113] [] ?_|refine rg 17 [2,3,5,7,36] [2,3,5,7,36,130] [] ?_|refine rg 19 [2,3,7,36] [2,3,7,36,149] [] ?_|refine rg 21 [2,3,7,36] [2,3,7,36,162] [] ?_|refine rg 22 [2,3,7] [2,3,8,9] [] ?_|refine nc ?_);simp[hF,hd]
 refine(h1).go [(0,[.d,.f 0])] (by simp[hF,au,dL]) ?_;rintro av X κ ⟨rfl,rfl,rfl⟩;simp[hF,au,dL]
 repeat first|refine n1 ?_|(((refine dr 23 0 [2,3,8,9] [8,9,10,11] [] [⟨0,4,5986310706507378352962293074805895248510699696029696,5⟩,⟨1,5986310706507378352962293074805895248510699696029696,11972621413014756705924586149611790497021399392059392,6⟩,⟨2,11972621413014756705924586149611790497021399392059392,23945242826029513411849172299223580994042798784118784,5⟩,⟨4,23945242826029513411849172299223580994042798784118784,47890485652059026823698344598447161988085597568237568,5⟩,⟨8,47890485652059026823698344598447161988085597568237568,95780971304118053647396689196894323976171195136475136,6⟩,⟨0,8,191561942608236107294793378393788647952342390272950272,5⟩,⟨32,191561942608236107294793378393788647952342390272950272,383123885216472214589586756787577295904684780545900544,6⟩,⟨80,478904856520590268236983445984471619880855975682375680,766247770432944429179173513575154591809369561091801088,0⟩,⟨128,766247770432944429179173513575154591809369561091801088,2993155353253689176481146537402947624255349848014848,5⟩,⟨256,2993155353253689176481146537402947624255349848014848,1532495540865888858358347027150309183618739122183602176,5⟩,⟨256,2993155353253689176481146537402947624255349848014848,3064991081731777716716694054300618367237478244367204352,5⟩,⟨1023,1532495540865888858358347027150309183618739122183602176,1024,5⟩,⟨4095,3064991081731777716716694054300618367237478244367204352,2048,5⟩] (.take 0 (.take 1 (.take 2 (.take 3 (.take 4 (.take 5 (.take 6 (.fork (.alt 7 (.take 8 (.take 9 (.take 10 (.take 11 (.take 12 (.done)))))) (.nil)))))))))) (.run [0,1,2,3,4,5,6,7,8,9,10,11,12] (.done)) ?_;simp only[nD]));simp[hF,aA,dR])
 refine(h2).go [(1,[.d,.f 1])] (by simp[hF,aA,dR,e1]) ?_;rintro av X κ ⟨rfl,rfl,rfl⟩;simp[hF,aA,dR,e1]
 repeat first|refine n1 ?_|refine rg 24 [8,9,10,11] [4] [(3,185)] ?_;simp[hF]
 (try refine nr ?_);(repeat first|refine aF ?_|refine aG ?_);refine ak.o [4] [0,1] [(0,[.d]),(1,[.d])] ?_;simp[hF,an,aa,ah,au,dL,aA,dR,iB]
 exact⟨_,hT,rfl,rfl,rfl⟩
theorem Z3{c:Nat}{s:Mt}{r:Rt}(h:aR s)(T:TR c s r)(hc:c≤1000)(d:bT)(hd:d.op=8) :
  ai Tryz.prog 19 [au true s,aA r] (.cons (FM 0 1) (.cons (sy d) .nil)) (fc c s d):=by
 have hN:nameOf d.n d.name=d.nm:=rfl
 have hM:nameOf d.m d.name=d.old:=rfl
 have tj:jV s d=iB s (bN s.L).1:=by unfold jV;rw[hd];rfl
 unfold fc
 rw[tj]
 have h1:=yO s.L h.len
 have h2:=F4 r.R (by rw[T.lr.len];exact h.len) (by rw[T.lr.len];exact h.pos)
 obtain⟨e1,e2⟩:=T.lr.mdl h.ok
 have hT:=(T.Lr e2).le (Nat.le_succ c)
 generalize bN s.L=Wb at *
 generalize bN r.R=Wc at *
 refine fb Tryz.func19 Tryz.ntmps19 [.tmp 4] fun w0 I0 F0 hF=>?_
 repeat first|refine n1 ?_|(first|refine rg 0 [0,1] [2,3] [] ?_|refine rg 1 [2,3] [2,3,5] [] ?_);simp[hF,au,dL,aA,dR]
 refine(bL d.n d.name).go [] (by simp[hF,hN]) ?_;rintro av X κ ⟨rfl,rfl,rfl⟩;simp[hF,hN]
 repeat first|refine n1 ?_|refine rg 2 [2,3,5] [2,3,5,6] [] ?_;simp[hF]
 refine(bL d.m d.name).go [] (by simp[hF,hM]) ?_;rintro av X κ ⟨rfl,rfl,rfl⟩;simp[hF,hM]
 repeat first|refine n1 ?_|refine rg 3 [2,3,5,6] [2,3,5,6,7] [] ?_;simp[hF]
 refine(bX true s).go [(0,[])] (by simp[hF,au,dL]) ?_;rintro av X κ ⟨rfl,rfl,rfl⟩;simp[hF,au,dL]
 repeat first|refine n1 ?_|refine n2 ?_|refine n3 ?_|(first|refine rg 4 [2,3,5,6,7] [2,3,5,6,7,34] [] ?_|refine rg 6 [2,3,5,6,7] [2,3,5,6,7,36] [] ?_|refine rg 7 [2,3,5,6,7,36] [2,3,5,6,7,36,37] [] ?_|refine rg 9 [2,3,5,6,7,36] [2,3,5,6,7,36,60] [] ?_|refine rg 11 [2,3,5,6,7,36] [2,3,5,6,7,36,83] [] ?_|refine rg 13 [2,3,5,6,7,36] [2,3,5,6,7,36,98] [] ?_|refine rg 15 [2,3,5,6,7,36] [2,3,5,6,7,36,113] [] ?_|refine rg 17 [2,3,5,7,36] [2,3,5,7,36,130] [] ?_|refine rg 19 [2,3,7,36] [2,3,7,36,149] [] ?_|refine rg 21 [2,3,7,36] [2,3,7,36,162] [] ?_|refine rg 25 [2,3,7,36] [2,3,7,36,190] [] ?_|refine rg 26 [2,7] [2,12,13] [] ?_|refine nc ?_);simp[hF,hd]
 refine(h1).go [(0,[.d,.f 0])] (by simp[hF,au,dL]) ?_;rintro av X κ ⟨rfl,rfl,rfl⟩;simp[hF,au,dL]
 repeat first|refine n1 ?_|refine rg 27 [2,12,13] [12,13,14,15] [] ?_;simp[hF,aA,dR]
 refine(h2).go [(1,[.d,.f 1])] (by simp[hF,aA,dR,e1]) ?_;rintro av X κ ⟨rfl,rfl,rfl⟩;simp[hF,aA,dR,e1]
 repeat first|refine n1 ?_|refine rg 28 [12,13,14,15] [4] [(3,209)] ?_;simp[hF]
 (try refine nr ?_);(repeat first|refine aF ?_|refine aG ?_);refine ak.o [4] [0,1] [(0,[.d]),(1,[.d])] ?_;simp[hF,an,aa,ah,au,dL,aA,dR,iB]
 exact⟨_,hT,rfl,rfl,rfl⟩
theorem Z4{c:Nat}{s:Mt}{r:Rt}(h:aR s)(T:TR c s r)(hc:c≤1000)(d:bT)(hd:d.op=9) :
  ai Tryz.prog 19 [au true s,aA r] (.cons (FM 0 1) (.cons (sy d) .nil)) (fc c s d):=by
 have hN:nameOf d.n d.name=d.nm:=rfl
 have hM:nameOf d.m d.name=d.old:=rfl
 have tj:jV s d=iB s (dg s.L d.a d.b).1:=by unfold jV;rw[hd];rfl
 unfold fc
 rw[tj]
 have h1:=FU h.ok.wf d.a d.b (hBI h.ok d.a d.b)
 have h2:=CU (T.lr.wf h.ok.wf) (by rw[T.lr.len];exact h.pos) d.a d.b (afQ h.ok T.lr d.a d.b)
 obtain⟨e1,e2⟩:=T.lr.VF h.ok d.a d.b
 have hT:=(T.Lr e2).le (Nat.le_succ c)
 generalize dg s.L d.a d.b=Wb at *
 generalize dg r.R d.a d.b=Wc at *
 refine fb Tryz.func19 Tryz.ntmps19 [.tmp 4] fun w0 I0 F0 hF=>?_
 repeat first|refine n1 ?_|(first|refine rg 0 [0,1] [2,3] [] ?_|refine rg 1 [2,3] [2,3,5] [] ?_);simp[hF,au,dL,aA,dR]
 refine(bL d.n d.name).go [] (by simp[hF,hN]) ?_;rintro av X κ ⟨rfl,rfl,rfl⟩;simp[hF,hN]
 repeat first|refine n1 ?_|refine rg 2 [2,3,5] [2,3,5,6] [] ?_;simp[hF]
 refine(bL d.m d.name).go [] (by simp[hF,hM]) ?_;rintro av X κ ⟨rfl,rfl,rfl⟩;simp[hF,hM]
 repeat first|refine n1 ?_|refine rg 3 [2,3,5,6] [2,3,5,6,7] [] ?_;simp[hF]
 refine(bX true s).go [(0,[])] (by simp[hF,au,dL]) ?_;rintro av X κ ⟨rfl,rfl,rfl⟩;simp[hF,au,dL]
 repeat first|refine n1 ?_|refine n2 ?_|refine n3 ?_|(first|refine rg 4 [2,3,5,6,7] [2,3,5,6,7,34] [] ?_|refine rg 6 [2,3,5,6,7] [2,3,5,6,7,36] [] ?_|refine rg 7 [2,3,5,6,7,36] [2,3,5,6,7,36,37] [] ?_|refine rg 9 [2,3,5,6,7,36] [2,3,5,6,7,36,60] [] ?_|refine rg 11 [2,3,5,6,7,36] [2,3,5,6,7,36,83] [] ?_|refine rg 13 [2,3,5,6,7,36] [2,3,5,6,7,36,98] [] ?_|refine rg 15 [2,3,5,6,7,36] [2,3,5,6,7,36,113] [] ?_|refine rg 17 [2,3,5,7,36] [2,3,5,7,36,130] [] ?_|refine rg 19 [2,3,7,36] [2,3,7,36,149] [] ?_|refine rg 21 [2,3,7,36] [2,3,7,36,162] [] ?_|refine rg 25 [2,3,7,36] [2,3,7,36,190] [] ?_|refine rg 29 [2,3,7,36] [2,3,7,36,214] [] ?_|(refine Q7 30 [2,3] 32800 21652 [2,3,7] [4] [] [⟨0,128,105312291668557186697918027683670432318895095400549111254310977536,5⟩,⟨0,8,210624583337114373395836055367340864637790190801098222508621955072,5⟩,⟨2,210624583337114373395836055367340864637790190801098222508621955072,421249166674228746791672110734681729275580381602196445017243910144,6⟩,⟨0,8,842498333348457493583344221469363458551160763204392890034487820288,5⟩,⟨8,842498333348457493583344221469363458551160763204392890034487820288,1684996666696914987166688442938726917102321526408785780068975640576,6⟩,⟨21,2211558125039700920656278581357079078696797003411531336340530528256,3369993333393829974333376885877453834204643052817571560137951281152,0⟩,⟨0,4,6739986666787659948666753771754907668409286105635143120275902562304,5⟩,⟨64,6739986666787659948666753771754907668409286105635143120275902562304,13479973333575319897333507543509815336818572211270286240551805124608,6⟩,⟨128,13479973333575319897333507543509815336818572211270286240551805124608,26959946667150639794667015087019630673637144422540572481103610249216,5⟩,⟨256,26959946667150639794667015087019630673637144422540572481103610249216,53919893334301279589334030174039261347274288845081144962207220498432,5⟩,⟨512,53919893334301279589334030174039261347274288845081144962207220498432,107839786668602559178668060348078522694548577690162289924414440996864,6⟩,⟨0,8,215679573337205118357336120696157045389097155380324579848828881993728,5⟩,⟨2048,215679573337205118357336120696157045389097155380324579848828881993728,431359146674410236714672241392314090778194310760649159697657763987456,6⟩,⟨0,8,862718293348820473429344482784628181556388621521298319395315527974912,5⟩,⟨8192,862718293348820473429344482784628181556388621521298319395315527974912,1725436586697640946858688965569256363112777243042596638790631055949824,6⟩,⟨21536,2264635520040653742752029267309648976585520131493408088412703260934144,3450873173395281893717377931138512726225554486085193277581262111899648,0⟩,⟨32800,3454243166728675723691711308024390180059759129138010849141400063180800,6901746346790563787434755862277025452451108972170386555162524223799296,5⟩,⟨131071,6901746346790563787434755862277025452451108972170386555162524223799296,16,5⟩] (.take 0 (.take 1 (.take 2 (.take 3 (.take 4 (.take 6 (.take 7 (.take 8 (.take 9 (.take 11 (.take 12 (.take 13 (.take 14 (.fork (.alt 5 (.fork (.alt 10 (.fork (.alt 15 (.take 16 (.take 17 (.done))) (.nil))) (.nil))) (.alt 10 (.fork (.alt 5 (.fork (.alt 15 (.take 16 (.take 17 (.done))) (.nil))) (.nil))) (.nil))))))))))))))))) (.run [0,1] (.eS 2 (.run [2,3] (.eS 4 (.run [4,6] (.eS 7 (.run [7,8,9,11] (.eS 12 (.run [12,13] (.eS 14 (.run [14] (.both (.eS 5 (.run [10] (.eS 15 (.run [16,17] (.done))))) (.run [10] (.eS 5 (.eS 15 (.run [16,17] (.done))))))))))))))))) ?_;simp only[Ar])|refine nc ?_);simp[hF,hd]
 (repeat' with_reducible refine And.intro ?_ ?_)
 all_goals
  refine(h1).Ci [(0,[.d,.f 0])] (by simp[hF,au,dL,aA,dR]) ?_;rintro av X κ ⟨rfl,rfl,rfl⟩;simp[hF,au,dL,aA,dR]
  refine(h2).Ci [(1,[.d,.f 1])] (by simp[hF,aA,dR,e1]) ?_;rintro av X κ ⟨rfl,rfl,rfl⟩;simp[hF,aA,dR,e1]
  repeat refine n1 ?_
  (try refine nr ?_);(repeat first|refine aF ?_|refine aG ?_);refine ak.o [4] [0,1] [(0,[.d]),(1,[.d])] ?_;simp[hF,an,aa,ah,au,dL,aA,dR,iB]
  exact⟨_,hT,rfl,rfl,rfl⟩
theorem Wd{c:Nat}{s:Mt}{r:Rt}(h:aR s)(T:TR c s r)(hc:c≤1000)(d:bT)(hd:d.op=10) :
  ai Tryz.prog 19 [au true s,aA r] (.cons (FM 0 1) (.cons (sy d) .nil)) (fc c s d):=by
 have hN:nameOf d.n d.name=d.nm:=rfl
 have hM:nameOf d.m d.name=d.old:=rfl
 have tj:jV s d=iB s (dh s.L d.a d.b).1:=by unfold jV;rw[hd];rfl
 unfold fc
 rw[tj]
 have h1:=FV h.ok.wf d.a d.b (hBP h.ok d.a d.b)
 have h2:=CV (T.lr.wf h.ok.wf) (by rw[T.lr.len];exact h.pos) d.a d.b (afR h.ok T.lr d.a d.b)
 obtain⟨e1,e2⟩:=T.lr.VH h.ok d.a d.b
 have hT:=(T.Lr e2).le (Nat.le_succ c)
 generalize dh s.L d.a d.b=Wb at *
 generalize dh r.R d.a d.b=Wc at *
 refine fb Tryz.func19 Tryz.ntmps19 [.tmp 4] fun w0 I0 F0 hF=>?_
 repeat first|refine n1 ?_|(first|refine rg 0 [0,1] [2,3] [] ?_|refine rg 1 [2,3] [2,3,5] [] ?_);simp[hF,au,dL,aA,dR]
 refine(bL d.n d.name).go [] (by simp[hF,hN]) ?_;rintro av X κ ⟨rfl,rfl,rfl⟩;simp[hF,hN]
 repeat first|refine n1 ?_|refine rg 2 [2,3,5] [2,3,5,6] [] ?_;simp[hF]
 refine(bL d.m d.name).go [] (by simp[hF,hM]) ?_;rintro av X κ ⟨rfl,rfl,rfl⟩;simp[hF,hM]
 repeat first|refine n1 ?_|refine rg 3 [2,3,5,6] [2,3,5,6,7] [] ?_;simp[hF]
 refine(bX true s).go [(0,[])] (by simp[hF,au,dL]) ?_;rintro av X κ ⟨rfl,rfl,rfl⟩;simp[hF,au,dL]
 repeat first|refine n1 ?_|refine n2 ?_|refine n3 ?_|(first|refine rg 4 [2,3,5,6,7] [2,3,5,6,7,34] [] ?_|refine rg 6 [2,3,5,6,7] [2,3,5,6,7,36] [] ?_|refine rg 7 [2,3,5,6,7,36] [2,3,5,6,7,36,37] [] ?_|refine rg 9 [2,3,5,6,7,36] [2,3,5,6,7,36,60] [] ?_|refine rg 11 [2,3,5,6,7,36] [2,3,5,6,7,36,83] [] ?_|refine rg 13 [2,3,5,6,7,36] [2,3,5,6,7,36,98] [] ?_|refine rg 15 [2,3,5,6,7,36] [2,3,5,6,7,36,113] [] ?_|refine rg 17 [2,3,5,7,36] [2,3,5,7,36,130] [] ?_|refine rg 19 [2,3,7,36] [2,3,7,36,149] [] ?_|refine rg 21 [2,3,7,36] [2,3,7,36,162] [] ?_|refine rg 25 [2,3,7,36] [2,3,7,36,190] [] ?_|refine rg 29 [2,3,7,36] [2,3,7,36,214] [] ?_|refine rg 31 [2,3,7,36] [2,3,7,36,233] [] ?_|(refine Q7 32 [2,3] 32800 21652 [2,3,7] [4] [] [⟨0,128,55213970774324510299478046898216203619608871777363092441300193790394368,5⟩,⟨0,8,110427941548649020598956093796432407239217743554726184882600387580788736,5⟩,⟨2,110427941548649020598956093796432407239217743554726184882600387580788736,220855883097298041197912187592864814478435487109452369765200775161577472,6⟩,⟨0,8,441711766194596082395824375185729628956870974218904739530401550323154944,5⟩,⟨8,441711766194596082395824375185729628956870974218904739530401550323154944,883423532389192164791648750371459257913741948437809479060803100646309888,6⟩,⟨21,1159493386260814716289038984862540276011786307324624941267304069598281728,1766847064778384329583297500742918515827483896875618958121606201292619776,0⟩,⟨0,4,3533694129556768659166595001485837031654967793751237916243212402585239552,5⟩,⟨64,3533694129556768659166595001485837031654967793751237916243212402585239552,7067388259113537318333190002971674063309935587502475832486424805170479104,6⟩,⟨128,7067388259113537318333190002971674063309935587502475832486424805170479104,14134776518227074636666380005943348126619871175004951664972849610340958208,5⟩,⟨256,14134776518227074636666380005943348126619871175004951664972849610340958208,28269553036454149273332760011886696253239742350009903329945699220681916416,5⟩,⟨512,28269553036454149273332760011886696253239742350009903329945699220681916416,56539106072908298546665520023773392506479484700019806659891398441363832832,6⟩,⟨0,8,113078212145816597093331040047546785012958969400039613319782796882727665664,5⟩,⟨2048,113078212145816597093331040047546785012958969400039613319782796882727665664,226156424291633194186662080095093570025917938800079226639565593765455331328,6⟩,⟨0,8,452312848583266388373324160190187140051835877600158453279131187530910662656,5⟩,⟨8192,452312848583266388373324160190187140051835877600158453279131187530910662656,904625697166532776746648320380374280103671755200316906558262375061821325312,6⟩,⟨21536,1187321227531074269479975920499241242636069178700415939857719367268640489472,1809251394333065553493296640760748560207343510400633813116524750123642650624,0⟩,⟨32800,1811018241397843937822879938261491478723170994297509432074646356324935270400,3618502788666131106986593281521497120414687020801267626233049500247285301248,5⟩,⟨131071,3618502788666131106986593281521497120414687020801267626233049500247285301248,16,5⟩] (.take 0 (.take 1 (.take 2 (.take 3 (.take 4 (.take 6 (.take 7 (.take 8 (.take 9 (.take 11 (.take 12 (.take 13 (.take 14 (.fork (.alt 5 (.fork (.alt 10 (.fork (.alt 15 (.take 16 (.take 17 (.done))) (.nil))) (.nil))) (.alt 10 (.fork (.alt 5 (.fork (.alt 15 (.take 16 (.take 17 (.done))) (.nil))) (.nil))) (.nil))))))))))))))))) (.run [0,1] (.eS 2 (.run [2,3] (.eS 4 (.run [4,6] (.eS 7 (.run [7,8,9,11] (.eS 12 (.run [12,13] (.eS 14 (.run [14] (.both (.eS 5 (.run [10] (.eS 15 (.run [16,17] (.done))))) (.run [10] (.eS 5 (.eS 15 (.run [16,17] (.done))))))))))))))))) ?_;simp only[Ar])|refine nc ?_);simp[hF,hd]
 (repeat' with_reducible refine And.intro ?_ ?_)
 all_goals
  refine(h1).Ci [(0,[.d,.f 0])] (by simp[hF,au,dL,aA,dR]) ?_;rintro av X κ ⟨rfl,rfl,rfl⟩;simp[hF,au,dL,aA,dR]
  refine(h2).Ci [(1,[.d,.f 1])] (by simp[hF,aA,dR,e1]) ?_;rintro av X κ ⟨rfl,rfl,rfl⟩;simp[hF,aA,dR,e1]
  repeat refine n1 ?_
  (try refine nr ?_);(repeat first|refine aF ?_|refine aG ?_);refine ak.o [4] [0,1] [(0,[.d]),(1,[.d])] ?_;simp[hF,an,aa,ah,au,dL,aA,dR,iB]
  exact⟨_,hT,rfl,rfl,rfl⟩
theorem We{c:Nat}{s:Mt}{r:Rt}(h:aR s)(T:TR c s r)(hc:c≤1000)(d:bT)(hd:d.op=11) :
  ai Tryz.prog 19 [au true s,aA r] (.cons (FM 0 1) (.cons (sy d) .nil)) (fc c s d):=by
 have hN:nameOf d.n d.name=d.nm:=rfl
 have hM:nameOf d.m d.name=d.old:=rfl
 have tj:jV s d=iB s (fu s.L d.a).1:=by unfold jV;rw[hd];rfl
 unfold fc
 rw[tj]
 have h1:=Zy h.ok.ZA (CG h.ok.wf) d.a
 have h2:=VK (T.lr.ZA h.ok) (CG h.ok.wf) d.a
 obtain⟨e1,e2⟩:=T.lr.ZH h.ok h.pos d.a
 have hT:=(T.Lr e2).le (Nat.le_succ c)
 generalize fu s.L d.a=Wb at *
 generalize dJ r.R d.a=Wc at *
 refine fb Tryz.func19 Tryz.ntmps19 [.tmp 4] fun w0 I0 F0 hF=>?_
 repeat first|refine n1 ?_|(first|refine rg 0 [0,1] [2,3] [] ?_|refine rg 1 [2,3] [2,3,5] [] ?_);simp[hF,au,dL,aA,dR]
 refine(bL d.n d.name).go [] (by simp[hF,hN]) ?_;rintro av X κ ⟨rfl,rfl,rfl⟩;simp[hF,hN]
 repeat first|refine n1 ?_|refine rg 2 [2,3,5] [2,3,5,6] [] ?_;simp[hF]
 refine(bL d.m d.name).go [] (by simp[hF,hM]) ?_;rintro av X κ ⟨rfl,rfl,rfl⟩;simp[hF,hM]
 repeat first|refine n1 ?_|refine rg 3 [2,3,5,6] [2,3,5,6,7] [] ?_;simp[hF]
 refine(bX true s).go [(0,[])] (by simp[hF,au,dL]) ?_;rintro av X κ ⟨rfl,rfl,rfl⟩;simp[hF,au,dL]
 repeat first|refine n1 ?_|refine n2 ?_|refine n3 ?_|(first|refine rg 4 [2,3,5,6,7] [2,3,5,6,7,34] [] ?_|refine rg 6 [2,3,5,6,7] [2,3,5,6,7,36] [] ?_|refine rg 7 [2,3,5,6,7,36] [2,3,5,6,7,36,37] [] ?_|refine rg 9 [2,3,5,6,7,36] [2,3,5,6,7,36,60] [] ?_|refine rg 11 [2,3,5,6,7,36] [2,3,5,6,7,36,83] [] ?_|refine rg 13 [2,3,5,6,7,36] [2,3,5,6,7,36,98] [] ?_|refine rg 15 [2,3,5,6,7,36] [2,3,5,6,7,36,113] [] ?_|refine rg 17 [2,3,5,7,36] [2,3,5,7,36,130] [] ?_|refine rg 19 [2,3,7,36] [2,3,7,36,149] [] ?_|refine rg 21 [2,3,7,36] [2,3,7,36,162] [] ?_|refine rg 25 [2,3,7,36] [2,3,7,36,190] [] ?_|refine rg 29 [2,3,7,36] [2,3,7,36,214] [] ?_|refine rg 31 [2,3,7,36] [2,3,7,36,233] [] ?_|refine rg 33 [2,3,7,36] [2,3,7,252] [] ?_|refine rg 34 [2,3,7] [2,3,16,17] [] ?_|refine nc ?_);simp[hF,hd]
 refine(h1).go [(0,[.d,.f 0])] (by simp[hF,au,dL]) ?_;rintro av X κ ⟨rfl,rfl,rfl⟩;simp[hF,au,dL]
 repeat first|refine n1 ?_|(((refine dr 35 0 [2,3,16,17] [16,17,18,19] [] [⟨0,4,7410693711188236507108543040556026102609279018600996098525285376506440296955904,5⟩,⟨1,7410693711188236507108543040556026102609279018600996098525285376506440296955904,14821387422376473014217086081112052205218558037201992197050570753012880593911808,6⟩,⟨2,14821387422376473014217086081112052205218558037201992197050570753012880593911808,29642774844752946028434172162224104410437116074403984394101141506025761187823616,5⟩,⟨4,29642774844752946028434172162224104410437116074403984394101141506025761187823616,59285549689505892056868344324448208820874232148807968788202283012051522375647232,5⟩,⟨8,59285549689505892056868344324448208820874232148807968788202283012051522375647232,118571099379011784113736688648896417641748464297615937576404566024103044751294464,6⟩,⟨0,8,237142198758023568227473377297792835283496928595231875152809132048206089502588928,5⟩,⟨32,237142198758023568227473377297792835283496928595231875152809132048206089502588928,474284397516047136454946754595585670566993857190463750305618264096412179005177856,6⟩,⟨80,592855496895058920568683443244482088208742321488079687882022830120515223756472320,948568795032094272909893509191171341133987714380927500611236528192824358010355712,0⟩,⟨128,948568795032094272909893509191171341133987714380927500611236528192824358010355712,3705346855594118253554271520278013051304639509300498049262642688253220148477952,5⟩,⟨256,3705346855594118253554271520278013051304639509300498049262642688253220148477952,1897137590064188545819787018382342682267975428761855001222473056385648716020711424,5⟩,⟨256,3705346855594118253554271520278013051304639509300498049262642688253220148477952,3794275180128377091639574036764685364535950857523710002444946112771297432041422848,5⟩,⟨1023,1897137590064188545819787018382342682267975428761855001222473056385648716020711424,262144,5⟩,⟨4095,3794275180128377091639574036764685364535950857523710002444946112771297432041422848,524288,5⟩] (.take 0 (.take 1 (.take 2 (.take 3 (.take 4 (.take 5 (.take 6 (.fork (.alt 7 (.take 8 (.take 9 (.take 10 (.take 11 (.take 12 (.done)))))) (.nil)))))))))) (.run [0,1,2,3,4,5,6,7,8,9,10,11,12] (.done)) ?_;simp only[nD]));simp[hF,aA,dR])
 refine(h2).go [(1,[.d,.f 1])] (by simp[hF,aA,dR,e1]) ?_;rintro av X κ ⟨rfl,rfl,rfl⟩;simp[hF,aA,dR,e1]
 repeat first|refine n1 ?_|refine rg 36 [16,17,18,19] [4] [(3,275)] ?_;simp[hF]
 (try refine nr ?_);(repeat first|refine aF ?_|refine aG ?_);refine ak.o [4] [0,1] [(0,[.d]),(1,[.d])] ?_;simp[hF,an,aa,ah,au,dL,aA,dR,iB]
 exact⟨_,hT,rfl,rfl,rfl⟩
theorem Wf{c:Nat}{s:Mt}{r:Rt}(h:aR s)(T:TR c s r)(hc:c≤1000)(d:bT)(hd:d.op<0∨11<d.op) :
  ai Tryz.prog 19 [au true s,aA r] (.cons (FM 0 1) (.cons (sy d) .nil)) (fc c s d):=by
 have hN:nameOf d.n d.name=d.nm:=rfl
 have hM:nameOf d.m d.name=d.old:=rfl
 have m0:¬d.op=0:=by omega
 have m1:¬d.op=1:=by omega
 have m2:¬d.op=2:=by omega
 have m3:¬d.op=3:=by omega
 have m4:¬d.op=4:=by omega
 have m5:¬d.op=5:=by omega
 have m6:¬d.op=6:=by omega
 have m7:¬d.op=7:=by omega
 have m8:¬d.op=8:=by omega
 have m9:¬d.op=9:=by omega
 have m10:¬d.op=10:=by omega
 have m11:¬d.op=11:=by omega
 have tj:jV s d=s:=by unfold jV;simp only[m0,m1,m2,m3,m4,m5,m6,m7,m8,m9,m10,m11,if_false]
 unfold fc
 rw[tj]
 refine fb Tryz.func19 Tryz.ntmps19 [.tmp 4] fun w0 I0 F0 hF=>?_
 repeat first|refine n1 ?_|(first|refine rg 0 [0,1] [2,3] [] ?_|refine rg 1 [2,3] [2,3,5] [] ?_);simp[hF,au,dL,aA,dR]
 refine(bL d.n d.name).go [] (by simp[hF,hN]) ?_;rintro av X κ ⟨rfl,rfl,rfl⟩;simp[hF,hN]
 repeat first|refine n1 ?_|refine rg 2 [2,3,5] [2,3,5,6] [] ?_;simp[hF]
 refine(bL d.m d.name).go [] (by simp[hF,hM]) ?_;rintro av X κ ⟨rfl,rfl,rfl⟩;simp[hF,hM]
 repeat first|refine n1 ?_|refine rg 3 [2,3,5,6] [2,3,5,6,7] [] ?_;simp[hF]
 refine(bX true s).go [(0,[])] (by simp[hF,au,dL]) ?_;rintro av X κ ⟨rfl,rfl,rfl⟩;simp[hF,au,dL]
 repeat first|refine n1 ?_|refine n2 ?_|refine n3 ?_|refine n4 ?_|(first|refine rg 4 [2,3,5,6,7] [2,3,5,6,7,34] [] ?_|refine rg 6 [2,3,5,6,7] [2,3,5,6,7,36] [] ?_|refine rg 7 [2,3,5,6,7,36] [2,3,5,6,7,36,37] [] ?_|refine rg 9 [2,3,5,6,7,36] [2,3,5,6,7,36,60] [] ?_|refine rg 11 [2,3,5,6,7,36] [2,3,5,6,7,36,83] [] ?_|refine rg 13 [2,3,5,6,7,36] [2,3,5,6,7,36,98] [] ?_|refine rg 15 [2,3,5,6,7,36] [2,3,5,6,7,36,113] [] ?_|refine rg 17 [2,3,5,7,36] [2,3,5,7,36,130] [] ?_|refine rg 19 [2,3,7,36] [2,3,7,36,149] [] ?_|refine rg 21 [2,3,7,36] [2,3,7,36,162] [] ?_|refine rg 25 [2,3,7,36] [2,3,7,36,190] [] ?_|refine rg 29 [2,3,7,36] [2,3,7,36,214] [] ?_|refine rg 31 [2,3,7,36] [2,3,7,36,233] [] ?_|refine rg 33 [2,3,7,36] [2,3,7,252] [] ?_|refine rg 37 [] [4] [] ?_|refine nc ?_);simp[hF,m0,m1,m2,m3,m4,m5,m6,m7,m8,m9,m10,m11]
 (try refine nr ?_);(repeat first|refine aF ?_|refine aG ?_);refine ak.o [4] [0,1] [(0,[.d]),(1,[.d])] ?_;simp[hF,an,aa,ah,au,dL,aA,dR]
 exact⟨r,T.le (Nat.le_succ c),rfl,rfl,rfl⟩
theorem Wg{c:Nat}{s:Mt}{r:Rt}(h:aR s)(T:TR c s r)(hc:c≤1000)(d:bT) :
  ai Tryz.prog 19 [au true s,aA r] (.cons (FM 0 1) (.cons (sy d) .nil)) (fc c s d):=by
 rcases(by omega:d.op=0∨d.op=1∨d.op=2∨d.op=3∨d.op=4∨d.op=5∨d.op=6∨d.op=7∨d.op=8∨d.op=9∨d.op=10∨d.op=11∨(d.op<0∨11<d.op)) with e|e|e|e|e|e|e|e|e|e|e|e|e
 ·exact ZV h T hc d e
 ·exact ZW h T hc d e
 ·exact ZX h T hc d e
 ·exact ZY h T hc d e
 ·exact ZZ h T hc d e
 ·exact Z0 h T hc d e
 ·exact Z1 h T hc d e
 ·exact Z2 h T hc d e
 ·exact Z3 h T hc d e
 ·exact Z4 h T hc d e
 ·exact Wd h T hc d e
 ·exact We h T hc d e
 ·exact Wf h T hc d e
def YE (d:bT):D:=.agg (.cons (.val (.int .i64 d.op)) (.cons (.val (.int .i64 d.a)) (.cons (.val (.int .i64 d.b)) (.cons (.val (.int .i64 d.c)) (.cons (.val (.int .i64 d.d)) (.cons (.val (.int .i64 d.n)) (.cons (.val (.int .i64 d.m)) (.cons (.val (.string d.name)) .nil))))))))
def wh (l:List bT):D:=sq (l.map YE)
@[simp] theorem ab0(d:bT):(YE d).width=8:=rfl
@[simp] theorem ady(l:List bT):(wh l).len=l.length:=by simp[wh]
theorem Dj{l:List bT}{i:Nat}(h:i<l.length):(wh l).nth i=YE l[i]:=by rw[wh,ep (by simpa using h)];simp
@[simp] theorem ab1(l:List bT):(wh l).free=true:=jL fun x hx=>by obtain⟨n,_,rfl⟩:=List.mem_map.1 hx;rfl
def mM:D:=.box true () (.agg (.cons (.aH ()) (.cons (.aH ()) .nil)))
@[simp high] theorem adz:aW mM=true:=by rw[mM,aW]
def As (l:List bT) (av:AV) (X:List D) (κ:List (Nat×Path)):Prop :=
 ∃r,TR 100 (jW (l.take 60)) r∧av=.cT (.cons (adx 0) (.cons (aN true) .nil))∧X=[Km (jW (l.take 60)) r]∧κ=[]
theorem Lv(l:List bT)(ex:Bool):ai Tryz.prog 8 [] (.cons (.cA 8 (wh l) ex) .nil) (As l):=by
 unfold As
 refine fb Tryz.func8 Tryz.ntmps8 [.cell 2 26,.tmp 3] fun w0 I0 F0 hF=>?_
 repeat first|refine n1 ?_|(first|refine rg 0 [0] [0,2] [] ?_|refine rg 1 [0,2] [0,2,4,5] [] ?_);simp[hF]
 refine(Q5).go [] (by simp[hF]) ?_;rintro av X κ ⟨rfl,rfl,rfl⟩;simp[hF]
 repeat first|refine n1 ?_|refine n3 ?_|refine rg 2 [0,2,4,5] [0,2,4,5,6] [] ?_;simp[hF]
 refine eP 1 [.d,.f 0] ?_;simp[hF,St.lift,AV.lift,cJ,cK,dV,isNode,Km,au]
 refine eP 1 [.d,.f 1] ?_;simp[hF,St.lift,AV.lift,cJ,cK,dV,isNode,Km,aA]
 refine VS.pick [0,2,4,5,6] [0,2,3,4] (by simp[hF]) ?_;simp[hF]
 refine VS.rounds (fun m st=>∃(i:Nat) (s:Mt) (r:Rt),i+m=60∧i≤l.length∧s=jW (l.take i)∧aR s∧TR i s r ∧
  st=⟨[(0,.cA 8 (wh l) ex),(2,.ptr 0 [.d]),(4,.ptr 1 [.d]),(5,aN true),(6,ag i)],[.box true () (.agg (.cons (.val (.pointer none)) (.cons (.val (.pointer none)) .nil))),mM,au true s,aA r],
   [],[(1,[.d,.f 0],.ptr 2 [.d]),(1,[.d,.f 1],.ptr 3 [.d])]⟩) ⟨60,0,s0,r0,by omega,by omega,rfl,Db,TR0,by simp[mM,au,aA]⟩ ?_
 rintro m st ⟨i,s,r,hi,hil,hs,hok,T,rfl⟩
 by_cases hlt:i<l.length
 ·have hn:=Dj hlt
  have mL:l.take (i+1)=l.take i++[l[i]]:=List.take_succ_eq_append_getElem hlt
  by_cases h60:i<60
  ·have Av:(i:Int)<60:=by omega
   have tj:=Wg hok T (by omega) l[i]
   have Dk:jV s l[i]=jW (l.take (i+1)):=by rw[mL,Gy,hs]
   have lF:=tP hok l[i]
   unfold fc at tj
   generalize jV s l[i]=s2 at *
   generalize l[i]=d at *
   repeat first|refine n1 ?_|refine n2 ?_|refine n3 ?_|(first|refine rg 3 [0,2,4,5,6] [0,2,4,5,6,21] [(4,15),(8,19)] ?_|(refine dr 5 0 [0,2,4,6] [0,2,4,5,6] [] [⟨0,16,16777216,6⟩,⟨0,1,33554432,5⟩,⟨0,64,67108864,5⟩,⟨6,100663296,134217728,5⟩,⟨8,134217728,268435456,6⟩,⟨17,285212672,536870912,0⟩,⟨63,536870912,32,5⟩] (.take 0 (.take 1 (.take 2 (.take 3 (.take 4 (.fork (.alt 5 (.take 6 (.done)) (.nil)))))))) (.run [0,1,2,3,4,5,6] (.done)) ?_;simp only[nD])|refine nc ?_);simp[hF,hlt,Av,hn,YE,mM]
   refine(tj).go [(2,[]),(3,[])] (by simp[hF,mM,au,aA]) ?_;rintro av X κ ⟨r2,hT2,rfl,rfl,rfl⟩;simp[hF,mM,au,aA]
   repeat first|refine n4 ?_|refine n5 ?_|refine n6 ?_|refine rg 4 [0,2,4,5,6] [0,2,4,5,6] [] ?_;simp[hF]
   refine aO.of [0,2,4,5,6] [0,1,2,3] (m-1) (by omega) (by simp[hF]) ?_
   refine⟨i+1,s2,r2,by omega,by omega,Dk,lF,hT2,?_⟩
   simp[mM,au,aA]
   exact IntWalk.i64_in _ (by omega)
  ·have Av:¬(i:Int)<60:=by omega
   have oD:l.take 60=l.take i:=by rw[show i=60 by omega]
   rw[oD,←hs]
   repeat first|refine n1 ?_|refine n7 ?_|(first|refine rg 3 [0,2,4,5,6] [0,2,4,5,6,21] [(4,15),(8,19)] ?_|refine rg 6 [2,4,5] [2,3] [] ?_|refine nc ?_);simp[hF,hlt,Av,mM,au,aA]
   (try refine nr ?_);(repeat first|refine aF ?_|refine aG ?_);refine ak.o [2,3] [0] [] ?_;simp[hF,an,aa,ah,Km,au,aA]
   exact⟨r,T.le (by omega),rfl,rfl,rfl⟩
 ·have oD:l.take 60=l.take i:=by rw[List.take_of_length_le (by omega),List.take_of_length_le (by omega)]
  rw[oD,←hs]
  repeat first|refine n1 ?_|refine n7 ?_|(first|refine rg 3 [0,2,4,5,6] [0,2,4,5,6,21] [(4,15),(8,19)] ?_|refine rg 6 [2,4,5] [2,3] [] ?_|refine nc ?_);simp[hF,hlt,mM,au,aA]
  (try refine nr ?_);(repeat first|refine aF ?_|refine aG ?_);refine ak.o [2,3] [0] [] ?_;simp[hF,an,aa,ah,Km,au,aA]
  exact⟨r,T.le (by omega),rfl,rfl,rfl⟩
end Go.Proofs.YtbhigdljojlhnaaGreat

namespace Go.Proofs.YtbhigdljojlhnaaGreat
set_option linter.all false
open Go Go.Vc Go.Proofs
set_option maxHeartbeats 4000000
set_option maxRecDepth 100000
theorem aab{h:Array Obj}{I:Nat→Prop}{F:List G}{e:En}{xs:List Value}(H:Rl h I F (.cons (ag e.body) (.cons (ag e.Ch) (.cons (ag e.home) (.cons (.val (.string e.known)) .nil)))) false xs) :
  xs=[.int .i64 e.body,.int .i64 e.Ch,.int .i64 e.home,.string e.known]:=by
 obtain⟨_,_,rfl,⟨rfl,_⟩,_,_,rfl,⟨rfl,_⟩,_,_,rfl,⟨rfl,_⟩,_,_,rfl,⟨rfl,_⟩,rfl⟩:=H
 rfl
theorem YJ{h:Array Obj}{I:Nat→Prop}{F:List G}{f:Fo}{xs:List Value}(H:Rl h I F (.cons (za f.e) (.cons (ag f.th) (.cons (ag f.md) .nil))) false xs) :
  xs=[.int .i64 f.e.body,.int .i64 f.e.Ch,.int .i64 f.e.home,.string f.e.known,.int .i64 f.th,.int .i64 f.md]:=by
 obtain⟨v1,_,rfl,h1,_,_,rfl,⟨rfl,_⟩,_,_,rfl,⟨rfl,_⟩,rfl⟩:=H
 rw[aab h1];rfl
theorem adq{op:BinOp}{f:Fo}{K:AV→Prop}(h:jC op true K) :
  jv Tryz.prog 43 op (.cons (za f.e) (.cons (ag f.th) (.cons (ag f.md) .nil))) (.cons (za f.e) (.cons (ag f.th) (.cons (ag f.md) .nil))) K:=by
 refine⟨_,⟨Tryz.eqGuardType43,fun h I F xs ys w h1 h2=>?_⟩,h⟩
 rw[YJ h1,YJ h2]
 have key:∀d,(Op.equalIn (d+3) 43 (.agg #[.int .i64 f.e.body,.int .i64 f.e.Ch,.int .i64 f.e.home,.string f.e.known,.int .i64 f.th,.int .i64 f.md]) (.agg #[.int .i64 f.e.body,.int .i64 f.e.Ch,.int .i64 f.e.home,.string f.e.known,.int .i64 f.th,.int .i64 f.md])).run Tryz.prog w=.ok true w:=fun d=>by
  simp[Op.equalIn,run_underlying Tryz.underlying43,run_underlying Tryz.underlying41,run_underlying Tryz.underlying3,run_underlying Tryz.underlying9,Tryz.stoodInHeld41,Tryz.stoodInHeld43,part,Rk]
 exact key 9997
end Go.Proofs.YtbhigdljojlhnaaGreat

namespace Go.Proofs.YtbhigdljojlhnaaGreat
set_option linter.all false
open Go.Vc Go.Proofs Go
set_option maxRecDepth 100000
abbrev isI (d:D):Prop:=∃n,d=.val (.int .i64 n)
theorem Rr:Reads Tryz.prog 55 8 fun d=>∃x,d=YE x:=by
 have h:=AF (gs:=[(1,isI),(1,isI),(1,isI),(1,isI),(1,isI),(1,isI),(1,isI),(1,fun d=>∃n,d=.val (.string n))]) Tryz.underlying55
  ⟨jD Tryz.underlying3,by kernel_rfl,rfl,jD Tryz.underlying3,by kernel_rfl,rfl,jD Tryz.underlying3,by kernel_rfl,rfl,jD Tryz.underlying3,by kernel_rfl,rfl,jD Tryz.underlying3,by kernel_rfl,rfl,jD Tryz.underlying3,by kernel_rfl,rfl,
   jD Tryz.underlying3,by kernel_rfl,rfl,LV Tryz.underlying9,by kernel_rfl,rfl,trivial⟩ (by kernel_rfl)
 refine fun H enc w fuel cs x hx=>?_
 obtain⟨g,h1,h2,h3,h4,s,h5,a1,t1,rfl,⟨n1,rfl⟩,a2,t2,rfl,⟨n2,rfl⟩,a3,t3,rfl,⟨n3,rfl⟩,a4,t4,rfl,⟨n4,rfl⟩,a5,t5,rfl,⟨n5,rfl⟩,a6,t6,rfl,⟨n6,rfl⟩,a7,t7,rfl,⟨n7,rfl⟩,a8,t8,rfl,⟨s8,rfl⟩,rfl⟩:=h H enc w fuel cs x hx
 exact⟨g,h1,h2,h3,h4,⟨n1,n2,n3,n4,n5,n6,n7,s8⟩,h5⟩
section
variable {H:Type} {enc:TypeId×Value→H} {w:World} {r:Go.Reach} {b0:Nat} {v:Value} {d:DataW H} {ps:List MemPlace}
theorem Rs(hv:Value.okWide Tryz.prog w r b0 3 v)(h:DataW.Trod enc Tryz.prog w 0 (fun _=>true) true 3 v d ps) :
  ∃n:Int,Rl w.heap (GN w) [] (.val (.int .i64 n)) true [v]:=by
 obtain⟨n,rfl,_⟩:=ChangeShapes.open_int Tryz.underlying3 hv h
 exact⟨n,rfl,rfl⟩
theorem Ru(hv:Value.okWide Tryz.prog w r b0 22 v)(h:DataW.Trod enc Tryz.prog w 0 (fun _=>true) true 22 v d ps) :
  ∃l:List bT,l.length≤2 ^ 63-1∧Rl w.heap (GN w) [] (.cA 8 (wh l) false) true [v]:=by
 obtain⟨l,h1,h2,h3⟩:=Dx (z:=8) Tryz.underlying22 Rr (by kernel_rfl) (by omega) hv h
 obtain⟨ys,rfl⟩:=Rv h1
 exact⟨ys,by simpa using h2,h3⟩
end
end Go.Proofs.YtbhigdljojlhnaaGreat
