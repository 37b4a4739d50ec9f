import Derived.Test.YtbhigdljojlhnaaGreatK3
import Derived.Test.YtbhigdljojlhnaaGreatK5
import Derived.Shelf.Sort.Plain
namespace Go.Vc
set_option linter.all false
open Go.Proofs Go.Shelf Go.Sort Go.RowKit
open T (cM blk)
def strs (l:List ByteArray):D:=sq (l.map fun n=>.val (.string n))
def leB (a b:ByteArray):Bool:=!Op.bytesLess b.toList a.toList
theorem Kq(s:ByteArray):encStr s.toList=.string s:=by
 show Value.string ⟨s.toList.toArray⟩=.string s
 rw[Go.ByteArray.toList_eq]
def kF:List ByteArray→G
 | []=>.nil
 | n::l=>.cons (.val (.string n)) (kF l)
theorem uG:∀l:List ByteArray,(kF l).erase=strs l
 | []=>rfl
 | n::l=>by simp only[kF,T.erase,uG l];rfl
theorem uH:∀l:List ByteArray,(kF l).cells=l.map Value.string
 | []=>rfl
 | n::l=>by simp[kF,T.cells,uH l]
theorem tU:∀l:List ByteArray,(kF l).len=l.length
 | []=>rfl
 | n::l=>by simp[kF,T.len,tU l]
theorem mz(h:Array Obj)(I:Nat→Prop):∀l:List ByteArray,T.Holds h I (kF l)
 | []=>trivial
 | n::l=>⟨rfl,mz h I l⟩
theorem qd:∀l:List ByteArray,(kF l).nQ 1
 | []=>trivial
 | n::l=>⟨rfl,qd l⟩
theorem gC:∀l:List ByteArray,(kF l).owned=[]
 | []=>rfl
 | n::l=>by simp[kF,T.owned,gC l]
end Go.Vc

namespace Go.Proofs.YtbhigdljojlhnaaGreat
set_option linter.all false
open Go.Vc Go.Proofs
open Go.Vc.T (gi dm)
section
variable {κ α:Type} [DecidableEq κ]
def bF:List (κ×α)→κ→Option α
 | [],_=>none
 | e::l,k=>if e.1=k then some e.2 else bF l k
def cz:List (κ×α)→κ→α→List (κ×α)
 | [],k,v=>[(k,v)]
 | e::l,k,v=>if e.1=k then (e.1,v)::l else e::cz l k v
def mV:List (κ×α)→κ→List (κ×α)
 | [],_=>[]
 | e::l,k=>if e.1=k then l else e::mV l k
def eB:List (κ×α)→κ→Nat
 | [],_=>0
 | e::l,k=>if e.1=k then 0 else eB l k+1
theorem jZ(l:List (κ×α))(k k':κ)(v:α):bF (cz l k v) k'=if k'=k then some v else bF l k':=by
 induction l with
 | nil =>
  by_cases h:k'=k
  ·subst h;simp[cz,bF]
  ·simp[cz,bF,h,Ne.symm h]
 | cons e l ih =>
  unfold cz
  by_cases h:e.1=k
  ·rw[if_pos h]
   by_cases h':k'=k
   ·rw[if_pos h'];simp[bF,h,h']
   ·rw[if_neg h']
    have:¬e.1=k':=fun q=>h' (by rw[←q,h])
    simp[bF,this]
  ·rw[if_neg h]
   by_cases h':e.1=k'
   ·have hne:¬k'=k:=fun q=>h (by rw[h',q])
    simp[bF,h',hne]
   ·simp only[bF,if_neg h',ih]
theorem Rh(l:List (κ×α))(k:κ)(u v:α):cz (cz l k u) k v=cz l k v:=by
 induction l with
 | nil=>simp[cz]
 | cons e l ih =>
  unfold cz
  by_cases h:e.1=k
  ·simp[cz,h]
  ·simp[cz,h,ih]
theorem fY{l:List (κ×α)}{k:κ}{v:α}(h:bF l k=some v):(k,v)∈l:=by
 induction l with
 | nil=>cases h
 | cons e l ih =>
  unfold bF at h
  by_cases he:e.1=k
  ·rw[if_pos he] at h;cases h;subst he;simp
  ·rw[if_neg he] at h;exact List.mem_cons_of_mem _ (ih h)
theorem pY{l:List (κ×α)}{k:κ}:bF l k=none↔k∉l.map (·.1):=by
 induction l with
 | nil=>simp[bF]
 | cons e l ih =>
  unfold bF
  by_cases he:e.1=k
  ·rw[if_pos he];simp[he]
  ·rw[if_neg he,ih];simp[Ne.symm he]
theorem De{l:List (κ×α)}(hn:(l.map (·.1)).Nodup)(k k':κ):bF (mV l k) k'=if k'=k then none else bF l k':=by
 induction l with
 | nil=>simp[mV,bF]
 | cons e l ih =>
  simp only[List.map_cons,List.nodup_cons] at hn
  unfold mV
  by_cases h:e.1=k
  ·rw[if_pos h]
   by_cases h':k'=k
   ·rw[if_pos h',pY];rw[h',←h];exact hn.1
   ·rw[if_neg h']
    have:¬e.1=k':=fun q=>h' (by rw[←q,h])
    simp[bF,this]
  ·rw[if_neg h]
   by_cases h':e.1=k'
   ·have hne:¬k'=k:=fun q=>h (by rw[h',q])
    simp[bF,h',hne]
   ·simp only[bF,if_neg h',ih hn.2]
theorem zg(l:List (κ×α))(k:κ)(v:α):(cz l k v).map (·.1)=if k∈l.map (·.1) then l.map (·.1) else l.map (·.1)++[k]:=by
 induction l with
 | nil=>simp[cz]
 | cons e l ih =>
  unfold cz
  by_cases h:e.1=k
  ·rw[if_pos h];simp[h]
  ·rw[if_neg h,List.map_cons,ih]
   by_cases h':k∈l.map (·.1)
   ·rw[if_pos h',if_pos (by simp only[List.map_cons,List.mem_cons];exact .inr h')];rfl
   ·rw[if_neg h',if_neg (by simp only[List.map_cons,List.mem_cons,not_or];exact⟨Ne.symm h,h'⟩)];rfl
theorem ir{l:List (κ×α)}(h:(l.map (·.1)).Nodup)(k:κ)(v:α):((cz l k v).map (·.1)).Nodup:=by
 rw[zg]
 split
 ·exact h
 ·rename_i hk
  rw[List.nodup_append]
  exact⟨h,by simp,fun a ha b hb=>by rw[List.mem_singleton] at hb;subst hb;exact fun q=>hk (q▸ha)⟩
theorem Dm(l:List (κ×α))(k:κ):(mV l k).Sublist l:=by
 induction l with
 | nil=>exact List.Sublist.slnil
 | cons e l ih =>
  unfold mV
  split
  ·exact List.sublist_cons_self ..
  ·exact ih.cons₂ _
theorem we{l:List (κ×α)}(h:(l.map (·.1)).Nodup)(k:κ):((mV l k).map (·.1)).Nodup:=((Dm l k).map _).nodup h
theorem mo{l:List (κ×α)}{k:κ}{v:α}(h:bF l k=some v):∃hi:eB l k<l.length,l[eB l k]=(k,v):=by
 induction l with
 | nil=>cases h
 | cons e l ih =>
  unfold bF at h
  unfold eB
  by_cases he:e.1=k
  ·rw[if_pos he] at h
   cases h
   subst he
   simp only[if_true]
   exact⟨by simp,rfl⟩
  ·rw[if_neg he] at h
   obtain⟨hi,hv⟩:=ih h
   simp only[if_neg he]
   exact⟨by simp only[List.length_cons];omega,by simpa using hv⟩
theorem An{l:List (κ×α)}{k:κ}{v u:α}(h:bF l k=some v):cz l k u=l.set (eB l k) (k,u):=by
 induction l with
 | nil=>cases h
 | cons e l ih =>
  unfold bF at h
  unfold cz eB
  by_cases he:e.1=k
  ·rw[if_pos he,if_pos he];subst he;rfl
  ·rw[if_neg he] at h
   rw[if_neg he,if_neg he,ih h];rfl
theorem Q1(l:List (κ×α))(k:κ)(v:α):(cz l k v).length≤l.length+1:=by
 have:=congrArg List.length (zg l k v)
 rw[List.length_map] at this
 rw[this]
 split<;>simp
theorem Q2(l:List (κ×α))(k:κ):(mV l k).length≤l.length:=(Dm l k).length_le
end
@[simp] theorem adE(l:List ByteArray):(strs l).len=l.length:=by simp[strs]
@[simp] theorem ab4(l:List ByteArray):(strs l).free=true:=jL fun x hx=>by obtain⟨n,_,rfl⟩:=List.mem_map.1 hx;rfl
theorem rZ{l:List ByteArray}{i:Nat}(h:i<l.length):(strs l).nth i=.val (.string l[i]):=by rw[strs,ep (by simpa using h)];simp
@[simp] theorem adF:strs []=.nil:=rfl
@[simp] theorem C2(l m:List ByteArray):(strs l).app (strs m)=strs (l++m):=by simp[strs,gQ]
@[simp] theorem ab5(l:List ByteArray)(n:ByteArray):(strs l).app (.cons (.val (.string n)) .nil)=strs (l++[n]):=C2 l [n]
@[simp] theorem Ah(l:List ByteArray):(strs l).mid 0 l.length=strs l:=aV _ _ (by simp)
@[simp] theorem Lf(l:List ByteArray)(n:ByteArray):(strs (l++[n])).mid 0 (l.length+1)=strs (l++[n]):=aV _ _ (by simp)
theorem C1(l:List ByteArray)(lo n:Nat):(strs l).mid lo n=strs ((l.drop lo).take n):=by simp only[strs,tr,←List.map_drop,←List.map_take]
@[simp] theorem YG(l:List ByteArray):(strs l).freeze=strs l:=by
 rw[strs,pP,List.map_map];rfl
theorem b9(s:ByteArray):(.cons (.val (.string s)) .nil:D)=strs [s]:=rfl
@[simp] theorem adG(L:List Th):(dL L).width=1:=rfl
structure En where
 body:Int
 Ch:Int
 home:Int
 known:ByteArray
 deriving DecidableEq
def aK (e:En):D:=.agg (.cons (.val (.int .i64 e.body)) (.cons (.val (.int .i64 e.Ch)) (.cons (.val (.int .i64 e.home)) (.cons (.val (.string e.known)) .nil))))
abbrev Tb:=List (ByteArray×En)
abbrev Key:=Int×Int
def uV (l:Tb):D:=sq (l.map fun e=>.agg (.cons (.val (.string e.1)) (.cons (aK e.2) .nil)))
def gn (o:Bool) (l:List (Key×Tb)):D:=sq (l.map fun e=>.agg (.cons (.agg (.cons (.val (.int .i64 e.1.1)) (.cons (.val (.int .i64 e.1.2)) .nil))) (.cons (.map o () (uV e.2)) .nil)))
def YH (l:List (Int×Bool)):D:=sq (l.map fun e=>.agg (.cons (.val (.int .i64 e.1)) (.cons (.val (.bool e.2)) .nil)))
structure Mt where
 L:List Th
 aT:List (Key×Tb)
 fz:List (Int×Bool)
def au (o:Bool) (s:Mt):D:=.box true () (.agg (.cons (dL s.L) (.cons (.map o () (gn o s.aT)) (.cons (.map true () (YH s.fz)) .nil))))
@[simp high] theorem adH(o:Bool)(s:Mt):aW (au o s)=true:=by rw[au,aW]
abbrev adI (k:Key):Value:=.agg #[.int .i64 k.1,.int .i64 k.2]
theorem Ri{α:Type}(a b:Int):(gi (.agg #[.int .i64 a,.int .i64 b]):T α)=.agg (.cons (.val (.int .i64 a)) (.cons (.val (.int .i64 b)) .nil)):=rfl
theorem mH{a b c d:Int}:((.agg (.cons (.val (.int .i64 a)) (.cons (.val (.int .i64 b)) .nil)):D)=gi (.agg #[.int .i64 c,.int .i64 d]))↔(a,b)=(c,d):=by
 rw[Ri];simp
section
variable (o:Bool) (l:List (Key×Tb)) (a b:Int)
@[simp] theorem Ko:uV []=.nil:=rfl
@[simp] theorem ab6:gn o []=.nil:=rfl
@[simp] theorem ae7:YH []=.nil:=rfl
theorem jB(e:Key×Tb):gn o (e::l)=.cons (.agg (.cons (.agg (.cons (.val (.int .i64 e.1.1)) (.cons (.val (.int .i64 e.1.2)) .nil))) (.cons (.map o () (uV e.2)) .nil))) (gn o l):=rfl
theorem lG(e:ByteArray×En)(t:Tb):uV (e::t)=.cons (.agg (.cons (.val (.string e.1)) (.cons (aK e.2) .nil))) (uV t):=rfl
theorem o8(e:Int×Bool)(t:List (Int×Bool)):YH (e::t)=.cons (.agg (.cons (.val (.int .i64 e.1)) (.cons (.val (.bool e.2)) .nil))) (YH t):=rfl
@[simp] theorem LH:(gn o l).len=l.length:=by simp[gn]
@[simp] theorem ae8(t:Tb):(uV t).len=t.length:=by simp[uV]
@[simp] theorem GJ:fh .two (gn o l)=True:=by
 refine eq_true ?_
 induction l with
 | nil=>trivial
 | cons e l ih=>rw[jB];exact⟨⟨.agg #[.int .i64 e.1.1,.int .i64 e.1.2],rfl,_,_,rfl⟩,ih⟩
@[simp] theorem adJ(t:Tb):fh .str (uV t)=True:=by
 refine eq_true ?_
 induction t with
 | nil=>trivial
 | cons e l ih=>rw[lG];exact⟨⟨.string e.1,rfl,trivial⟩,ih⟩
@[simp] theorem adK(t:List (Int×Bool)):fh (.int .i64) (YH t)=True:=by
 refine eq_true ?_
 induction t with
 | nil=>trivial
 | cons e l ih=>rw[o8];exact⟨⟨.int .i64 e.1,rfl,rfl⟩,ih⟩
@[simp] theorem adL(k:KK):fh k .nil=True:=eq_true trivial
theorem jy:iT (.agg #[.int .i64 a,.int .i64 b]) (gn o l)=(bF l (a,b)).map fun t=>.map o () (uV t):=by
 induction l with
 | nil=>rfl
 | cons e l ih =>
  rw[jB]
  unfold iT bF
  by_cases h:e.1=(a,b)
  ·rw[if_pos (mH.2 h),if_pos h];rfl
  ·rw[if_neg (fun q=>h (mH.1 q)),if_neg h,ih]
theorem o4:mix (.agg #[.int .i64 a,.int .i64 b]) (gn o l)=eB l (a,b):=by
 induction l with
 | nil=>rfl
 | cons e l ih =>
  rw[jB]
  unfold mix eB
  by_cases h:e.1=(a,b)
  ·rw[if_pos (mH.2 h),if_pos h]
  ·rw[if_neg (fun q=>h (mH.1 q)),if_neg h,ih]
theorem LI(t:Tb):ig (.agg #[.int .i64 a,.int .i64 b]) (.map o () (uV t)) (gn o l)=gn o (cz l (a,b) t):=by
 induction l with
 | nil=>rfl
 | cons e l ih =>
  rw[jB]
  unfold ig cz
  by_cases h:e.1=(a,b)
  ·rw[if_pos (mH.2 h),if_pos h,jB]
  ·rw[if_neg (fun q=>h (mH.1 q)),if_neg h,jB,ih]
theorem o5{a b:ByteArray}:((.val (.string a):D)=gi (.string b))↔a=b:=by rw[P4];simp
theorem sd(t:Tb)(n:ByteArray):iT (.string n) (uV t)=(bF t n).map aK:=by
 induction t with
 | nil=>rfl
 | cons e l ih =>
  rw[lG]
  unfold iT bF
  by_cases h:e.1=n
  ·rw[if_pos (o5.2 h),if_pos h];rfl
  ·rw[if_neg (fun q=>h (o5.1 q)),if_neg h,ih]
theorem Kp(t:Tb)(n:ByteArray)(v:En):ig (.string n) (aK v) (uV t)=uV (cz t n v):=by
 induction t with
 | nil=>rfl
 | cons e l ih =>
  rw[lG]
  unfold ig cz
  by_cases h:e.1=n
  ·rw[if_pos (o5.2 h),if_pos h,lG]
  ·rw[if_neg (fun q=>h (o5.1 q)),if_neg h,lG,ih]
theorem Wj(t:Tb)(n:ByteArray):nO (.string n) (uV t)=uV (mV t n):=by
 induction t with
 | nil=>rfl
 | cons e l ih =>
  rw[lG]
  unfold nO mV
  by_cases h:e.1=n
  ·rw[if_pos (o5.2 h),if_pos h]
  ·rw[if_neg (fun q=>h (o5.1 q)),if_neg h,lG,ih]
theorem int_eq{a b:Int}:((.val (.int .i64 a):D)=gi (.int .i64 b))↔a=b:=by rw[vv];simp
theorem Rj(t:List (Int×Bool))(n:Int):iT (.int .i64 n) (YH t)=(bF t n).map fun b=>.val (.bool b):=by
 induction t with
 | nil=>rfl
 | cons e l ih =>
  rw[o8]
  unfold iT bF
  by_cases h:e.1=n
  ·rw[if_pos (int_eq.2 h),if_pos h];rfl
  ·rw[if_neg (fun q=>h (int_eq.1 q)),if_neg h,ih]
theorem Wk(t:List (Int×Bool))(n:Int)(v:Bool):ig (.int .i64 n) (.val (.bool v)) (YH t)=YH (cz t n v):=by
 induction t with
 | nil=>rfl
 | cons e l ih =>
  rw[o8]
  unfold ig cz
  by_cases h:e.1=n
  ·rw[if_pos (int_eq.2 h),if_pos h,o8]
  ·rw[if_neg (fun q=>h (int_eq.1 q)),if_neg h,o8,ih]
theorem jz{l:List (Key×Tb)}{i:Nat}{k:Key}{t:Tb}(h:∃hi:i<l.length,l[i]=(k,t)):(gn o l).nth i=.agg (.cons (.agg (.cons (.val (.int .i64 k.1)) (.cons (.val (.int .i64 k.2)) .nil))) (.cons (.map o () (uV t)) .nil)):=by
 obtain⟨hi,h⟩:=h
 rw[gn,ep (by simpa using hi)];simp[h]
def gS (o:Bool) (l:List (Key×Tb)) (i:Nat) (k:Key) (x:D):D:=(gn o l).br i (.agg (.cons (.agg (.cons (.val (.int .i64 k.1)) (.cons (.val (.int .i64 k.2)) .nil))) (.cons x .nil)))
@[simp] theorem Z9(o:Bool)(l:List (Key×Tb))(i:Nat)(k:Key)(x:D):(gS o l i k x).len=l.length:=by rw[gS,T.bS,LH]
theorem tR(o:Bool)(l:List (Key×Tb))(i:Nat)(k1 k2:Int)(x:D):(gn o l).br i (.agg (.cons (.agg (.cons (.val (.int .i64 k1)) (.cons (.val (.int .i64 k2)) .nil))) (.cons x .nil)))=gS o l i (k1,k2) x:=rfl
theorem qW{o:Bool}{l:List (Key×Tb)}{i:Nat}(hi:i<l.length)(k:Key)(x:D):(gS o l i k x).nth i=.agg (.cons (.agg (.cons (.val (.int .i64 k.1)) (.cons (.val (.int .i64 k.2)) .nil))) (.cons x .nil)):=by
 rw[gS,T.aZ _ (by simpa using hi)]
theorem pV{α:Type}:∀(s:T α) (k:Nat) (x y:T α),(s.br k x).br k y=s.br k y
 | .cons _ _,0,_,_=>rfl
 | .cons _ t,k+1,x,y=>by simp only[T.br,pV t k x y]
 | .val _,_,_,_=>rfl
 | .aH _,_,_,_=>rfl
 | .nil,_,_,_=>rfl
 | .agg _,_,_,_=>rfl
 | .sl _ _ _ _,_,_,_=>rfl
 | .box _ _ _,_,_,_=>rfl
 | .map _ _ _,_,_,_=>rfl
theorem fL(o:Bool)(l:List (Key×Tb))(i:Nat)(k:Key)(k1 k2:Int)(x y:D):(gS o l i k x).br i (.agg (.cons (.agg (.cons (.val (.int .i64 k1)) (.cons (.val (.int .i64 k2)) .nil))) (.cons y .nil)))=gS o l i (k1,k2) y:=by
 rw[gS,pV];rfl
theorem qX(o:Bool)(l:List (Key×Tb))(i:Nat)(k:Key)(t:Tb):gS o l i k (.map o () (uV t))=gn o (l.set i (k,t)):=by
 simp only[gS,gn,iP,List.map_set]
theorem sA(o:Bool)(e:Key×Tb)(l:List (Key×Tb))(k:Key)(x:D):gS o (e::l) 0 k x=.cons (.agg (.cons (.agg (.cons (.val (.int .i64 k.1)) (.cons (.val (.int .i64 k.2)) .nil))) (.cons x .nil))) (gn o l):=rfl
theorem sB(o:Bool)(e:Key×Tb)(l:List (Key×Tb))(i:Nat)(k:Key)(x:D):gS o (e::l) (i+1) k x=.cons (.agg (.cons (.agg (.cons (.val (.int .i64 e.1.1)) (.cons (.val (.int .i64 e.1.2)) .nil))) (.cons (.map o () (uV e.2)) .nil))) (gS o l i k x):=rfl
@[simp] theorem YI(o:Bool)(l:List (Key×Tb))(i:Nat)(k:Key)(x:D):fh .two (gS o l i k x)=True:=by
 refine eq_true ?_
 induction l generalizing i with
 | nil=>exact trivial
 | cons e l ih =>
  cases i with
  | zero=>rw[sA];exact⟨⟨adI k,rfl,_,_,rfl⟩,by have:=GJ o l;rw[this];trivial⟩
  | succ i=>rw[sB];exact⟨⟨adI e.1,rfl,_,_,rfl⟩,ih i⟩
theorem o9{o:Bool}{l:List (Key×Tb)}{a b:Int}{t:Tb}(h:bF l (a,b)=some t)(x:D) :
  iT (.agg #[.int .i64 a,.int .i64 b]) (gS o l (eB l (a,b)) (a,b) x)=some x∧mix (.agg #[.int .i64 a,.int .i64 b]) (gS o l (eB l (a,b)) (a,b) x)=eB l (a,b):=by
 induction l with
 | nil=>cases h
 | cons e l ih =>
  unfold bF at h
  by_cases he:e.1=(a,b)
  ·have:eB (e::l) (a,b)=0:=by unfold eB;rw[if_pos he]
   rw[this,sA]
   unfold iT mix
   rw[if_pos (mH.2 rfl),if_pos (mH.2 rfl)];exact⟨rfl,rfl⟩
  ·rw[if_neg he] at h
   have:eB (e::l) (a,b)=eB l (a,b)+1:=by rw[eB,if_neg he]
   rw[this,sB]
   unfold iT mix
   rw[if_neg (fun q=>he (mH.1 q)),if_neg (fun q=>he (mH.1 q))]
   obtain⟨h1,h2⟩:=ih h
   exact⟨h1,by rw[h2]⟩
end
end Go.Proofs.YtbhigdljojlhnaaGreat

namespace Go.Proofs.YtbhigdljojlhnaaGreat
set_option linter.all false
open Go.Vc Go.Proofs
def cS (s:ByteArray):Bool:=decide (1≤s.size)&&decide (s.size≤40)
def iM (s:Mt) (t:Int):Bool:=val s.L t&&decide ((ax s.L t).kind=1)
def cB (s:Mt) (t:Int) (dn:Bool) (names:List ByteArray):Int:=if (val s.L t&&dn)=false then 1 else if names.all cS=false then 6 else 0
def qB (s:Mt) (t:Int):Bool:=(bF s.fz t).getD false
def bK (s:Mt) (t:Int) (dn:Bool) (names:List ByteArray):Int:=if (decide (cB s t dn names=0)&&qB s t)=true then 13 else cB s t dn names
noncomputable def placesOf (s:Mt) (t:Int) (act:List Int):List Key:=(aP s.L t).flatMap fun x=>act.map (fun m=>(x,m))++[(x,-1)]
def iO (s:Mt) (k:Key) (n:ByteArray):Option En:=(bF s.aT k).bind fun t=>bF t n
structure Fo where
 e:En
 th:Int
 md:Int
def En.none:En:=⟨0,0,0,⟨#[]⟩⟩
def Fo.none:Fo:=⟨En.none,0,0⟩
def aY (s:Mt):List Key→ByteArray→Fo×Bool
 | [],_=>(Fo.none,false)
 | k::l,n=>match iO s k n with
  | some e=>(⟨e,k.1,k.2⟩,decide (e.body≠-1))
  | none=>aY s l n
noncomputable def aJ (s:Mt) (t:Int) (n:ByteArray) (act:List Int):Fo×Bool:=aY s (placesOf s t act) n
def dH (s:Mt) (k:Key) (n:ByteArray) (e:En):Mt:={ s with aT:=cz s.aT k (cz ((bF s.aT k).getD []) n e) }
def iV (s:Mt) (k:Key) (n:ByteArray):Mt:={ s with aT:=match bF s.aT k with|some t=>cz s.aT k (mV t n)|none=>s.aT }
@[simp] theorem ae9(s:Mt)(k:Key)(n:ByteArray)(e:En):(dH s k n e).L=s.L:=rfl
@[simp] theorem adM(s:Mt)(k:Key)(n:ByteArray)(e:En):(dH s k n e).fz=s.fz:=rfl
@[simp] theorem ae'(s:Mt)(k:Key)(n:ByteArray):(iV s k n).L=s.L:=rfl
@[simp] theorem adN(s:Mt)(k:Key)(n:ByteArray):(iV s k n).fz=s.fz:=rfl
def dw (b:Int):Bool:=decide (0≤b)&&decide (b≤1000000)
def fZ (v:Int):Bool:=decide (0≤v)&&decide (v≤2)
def bt (s:Mt) (t:Int) (n:ByteArray) (b v:Int):Mt×Int :=
 if bK s t (dw b&&fZ v) [n]=0 then (dH s (t,-1) n ⟨b,v,t,n⟩,0) else (s,bK s t (dw b&&fZ v) [n])
def cC (s:Mt) (m t:Int) (n:ByteArray) (b:Int):Mt×Int :=
 if cB s t (iM s m&&dw b) [n]=0 then (dH s (t,m) n ⟨b,0,t,n⟩,0) else (s,cB s t (iM s m&&dw b) [n])
noncomputable def cq (s:Mt) (t:Int) (n:ByteArray):Mt×Int :=
 if bK s t true [n]≠0 then (s,bK s t true [n]) else if (aJ s t n []).2=false then (s,3) else (dH s (t,-1) n ⟨-1,0,t,n⟩,0)
def bf (s:Mt) (t:Int) (n:ByteArray):Mt×Int :=
 if bK s t true [n]≠0 then (s,bK s t true [n]) else if iO s (t,-1) n=none then (s,3) else (iV s (t,-1) n,0)
noncomputable def aliasOf (s:Mt) (t:Int) (n old:ByteArray):Mt×Int :=
 if bK s t true [n,old]≠0 then (s,bK s t true [n,old]) else if (aJ s t old []).2=false then (s,3) else (dH s (t,-1) n (aJ s t old []).1.e,0)
noncomputable def iW (s:Mt) (t:Int) (n:ByteArray):En:=match iO s (t,-1) n with
 | some own=>if own.body≠-1 then own else (aJ s t n []).1.e
 | none=>(aJ s t n []).1.e
noncomputable def eD (s:Mt) (t:Int) (n:ByteArray) (v:Int):Mt×Int :=
 if bK s t (fZ v) [n]≠0 then (s,bK s t (fZ v) [n]) else if (aJ s t n []).2=false then (s,3) else (dH s (t,-1) n { iW s t n with Ch:=v },0)
def cD (s:Mt) (t:Int):Mt×Int:=if val s.L t=false then (s,1) else ({ s with fz:=cz s.fz t true },0)
def qU (s:Mt) (act:List Int):Bool:=act.all (iM s)
def toldOf (f:Fo×Bool):Fo×Int:=if f.2=false then (Fo.none,3) else (f.1,0)
noncomputable def aX (s:Mt) (t:Int) (n:ByteArray) (act:List Int):Fo×Int :=
 if cB s t (qU s act) [n]≠0 then (Fo.none,cB s t (qU s act) [n]) else toldOf (aJ s t n act)
def xU (a b:Int) (k:Key):Bool:=decide (k.1=a)&&decide (k.2=b)
noncomputable def bZ (s:Mt) (t:Int) (n:ByteArray) (th md:Int):Fo×Bool :=
 if (placesOf s t []).any (xU th (-1))=false then (Fo.none,false)
 else aY s ((placesOf s t []).drop ((placesOf s t []).findIdx (xU th (-1))+if md<0 then 1 else 0)) n
theorem qb(s:Mt)(k k':Key)(n n':ByteArray)(e:En):iO (dH s k n e) k' n'=if k'=k∧n'=n then some e else iO s k' n':=by
 simp only[iO,dH,jZ]
 by_cases h:k'=k
 ·subst h
  simp only[if_true,Option.bind_some,jZ,true_and]
  by_cases h2:n'=n
  ·simp[h2]
  ·simp only[if_neg h2]
   cases bF s.aT k'<;>simp[bF]
 ·simp[h]
structure aR (s:Mt):Prop where
 ok:OK s.L
 pos:0<s.L.length
 nd:(s.aT.map (·.1)).Nodup
 ns:∀k t,(k,t)∈s.aT→(t.map (·.1)).Nodup
 nf:(s.fz.map (·.1)).Nodup
theorem su{s:Mt}(h:aR s)(k k':Key)(n n':ByteArray):iO (iV s k n) k' n'=if k'=k∧n'=n then none else iO s k' n':=by
 simp only[iO,iV]
 cases hk:bF s.aT k with
 | none =>
  simp only
  by_cases h2:k'=k∧n'=n
  ·rw[if_pos h2,h2.1,hk];rfl
  ·rw[if_neg h2]
 | some t =>
  have ht:=h.ns k t (fY hk)
  simp only[jZ]
  by_cases h1:k'=k
  ·subst h1
   simp only[if_true,Option.bind_some,De ht,true_and,hk]
  ·simp[h1]
theorem aR.put{s:Mt}(h:aR s)(k:Key)(n:ByteArray)(e:En):aR (dH s k n e):=by
 refine⟨h.ok,h.pos,ir h.nd _ _,fun k' t' hm=>?_,h.nf⟩
 have hnd:=ir h.nd k (cz ((bF s.aT k).getD []) n e)
 have hg:bF (dH s k n e).aT k'=some t':=by
  show bF (cz s.aT k _) k'=some t'
  have hm':(k',t')∈cz s.aT k (cz ((bF s.aT k).getD []) n e):=hm
  generalize cz s.aT k (cz ((bF s.aT k).getD []) n e)=l at *
  clear hm
  induction l with
  | nil=>cases hm'
  | cons e l ih =>
   simp only[List.map_cons,List.nodup_cons] at hnd
   unfold bF
   rcases List.mem_cons.1 hm' with rfl|hm'
   ·rw[if_pos rfl]
   ·rw[if_neg fun q=>hnd.1 (List.mem_map.2 ⟨_,hm',q.symm⟩)]
    exact ih hnd.2 hm'
 rw[show (dH s k n e).aT=cz s.aT k (cz ((bF s.aT k).getD []) n e) from rfl,jZ] at hg
 split at hg
 ·cases hg
  refine ir ?_ _ _
  cases hk:bF s.aT k with
  | none=>exact List.nodup_nil
  | some t=>exact h.ns k t (fY hk)
 ·exact h.ns k' t' (fY hg)
theorem mw{κ α:Type}[DecidableEq κ]{l:List (κ×α)}(hn:(l.map (·.1)).Nodup){k:κ}{v:α}(hm:(k,v)∈l):bF l k=some v:=by
 induction l with
 | nil=>cases hm
 | cons e l ih =>
  simp only[List.map_cons,List.nodup_cons] at hn
  unfold bF
  rcases List.mem_cons.1 hm with rfl|hm
  ·rw[if_pos rfl]
  ·rw[if_neg fun q=>hn.1 (List.mem_map.2 ⟨_,hm,q.symm⟩)]
   exact ih hn.2 hm
theorem aR.del{s:Mt}(h:aR s)(k:Key)(n:ByteArray):aR (iV s k n):=by
 unfold iV
 cases hk:bF s.aT k with
 | none=>exact h
 | some t =>
  refine⟨h.ok,h.pos,ir h.nd _ _,fun k' t' hm=>?_,h.nf⟩
  have hg:=mw (ir h.nd k (mV t n)) hm
  rw[jZ] at hg
  split at hg
  ·cases hg;exact we (h.ns k t (fY hk)) n
  ·exact h.ns k' t' (fY hg)
theorem aR.len{s:Mt}(h:aR s):s.L.length≤1000:=h.ok.len
end Go.Proofs.YtbhigdljojlhnaaGreat

namespace Go.Proofs.YtbhigdljojlhnaaGreat
set_option linter.all false
open Go.Vc Go.Proofs
set_option maxRecDepth 100000
set_option maxHeartbeats 4000000
attribute [local irreducible] bx jv
theorem nP(o:Bool)(s:Mt):ai Tryz.prog 47 [au o s] (.cons (.ptr 0 [.d]) .nil) fun av X κ=>av=aN false∧X=[au o s]∧κ=[]:=by
 refine fb Tryz.func47 Tryz.ntmps47 [.tmp 2] fun w0 I0 F0 hF=>?_
 repeat first|refine n1 ?_|(first|refine rg 0 [0] [0] [] ?_|refine rg 1 [0] [2] [(2,5)] ?_);simp[hF,au,dL]
 (try refine nr ?_);(repeat first|refine aF ?_|refine aG ?_);refine ak.o [2] [0] [] ?_;simp[hF,an,aa,ah,au,dL]
theorem mG(o:Bool){s:Mt}(h:aR s)(t:Int):ai Tryz.prog 73 [au o s] (.cons (.ptr 0 [.d]) (.cons (ag t) .nil)) fun av X κ=>av=aN (val s.L t)∧X=[au o s]∧κ=[]:=by
 have hl:=h.len
 refine fb Tryz.func73 Tryz.ntmps73 [.tmp 4] fun w0 I0 F0 hF=>?_
 repeat first|refine n1 ?_|(first|refine rg 0 [0,1] [0,1] [] ?_|refine rg 1 [0,1] [4] [(3,8),(7,12)] ?_);simp[hF]
 by_cases h1:0≤t
 ·refine(nP o s).go [(0,[])] (by simp[hF,au,dL,h1]) ?_;rintro av X κ ⟨rfl,rfl,rfl⟩;simp[hF,au,dL,h1]
  refine(vI s.L hl).go [(0,[.d,.f 0])] (by simp[hF,au,dL]) ?_;rintro av X κ ⟨rfl,rfl,rfl⟩;simp[hF,au,dL]
  repeat refine n1 ?_
  have hv:decide (t<(s.L.length:Int))=val s.L t:=by simp[val,h1]
  (try refine nr ?_);(repeat first|refine aF ?_|refine aG ?_);refine ak.o [4] [0] [] ?_;simp[hF,an,aa,ah,au,dL,hv]
 ·have hv:val s.L t=false:=by simp[val,h1]
  refine(nP o s).go [(0,[])] (by simp[hF,au,dL,h1]) ?_;rintro av X κ ⟨rfl,rfl,rfl⟩;simp[hF,au,dL,h1]
  repeat refine n1 ?_
  (try refine nr ?_);(repeat first|refine aF ?_|refine aG ?_);refine ak.o [4] [0] [] ?_;simp[hF,an,aa,ah,au,dL,hv]
theorem Wo{L:List Th}(hl:L.length≤1000)(t:Int)(hv:val L t=false):ai Tryz.prog 25 [dL L] (.cons (.ptr 0 [.d]) (.cons (ag t) .nil))
  fun av X κ=>av=fX (ag 0) 1∧X=[dL L]∧κ=[]:=by
 refine fb Tryz.func25 Tryz.ntmps25 [.tmp 4,.tmp 5] fun w0 I0 F0 hF=>?_
 repeat first|refine n1 ?_|(first|refine rg 0 [0,1] [0,1] [] ?_|refine rg 1 [0,1] [0,1,9] [] ?_);simp[hF]
 refine(oy L hl t).go [(0,[])] (by simp[hF,dL,hv]) ?_;rintro av X κ ⟨rfl,rfl,rfl⟩;simp[hF,dL,hv]
 repeat first|refine n1 ?_|(first|refine rg 2 [] [4,5] [] ?_|refine nc ?_);simp[hF]
 (try refine nr ?_);(repeat first|refine aF ?_|refine aG ?_);refine ak.o [4,5] [0] [] ?_;simp[hF,an,aa,ah,dL]
theorem Az(o:Bool){s:Mt}(h:aR s)(t:Int):ai Tryz.prog 79 [au o s] (.cons (.ptr 0 [.d]) (.cons (ag t) .nil)) fun av X κ=>av=aN (iM s t)∧X=[au o s]∧κ=[]:=by
 have hl:=h.len
 refine fb Tryz.func79 Tryz.ntmps79 [.tmp 4] fun w0 I0 F0 hF=>?_
 repeat first|refine n1 ?_|(first|refine rg 0 [0,1] [0,1] [] ?_|refine rg 1 [0,1] [5,6] [] ?_);simp[hF,au,dL]
 cases hv:val s.L t with
 | false =>
  refine(Wo hl t hv).go [(0,[.d,.f 0])] (by simp[hF,au,dL]) ?_;rintro av X κ ⟨rfl,rfl,rfl⟩;simp[hF,au,dL]
  repeat first|refine n1 ?_|refine rg 2 [5,6] [4] [(2,18)] ?_;simp[hF]
  (try refine nr ?_);(repeat first|refine aF ?_|refine aG ?_);refine ak.o [4] [0] [] ?_;simp[hF,an,aa,ah,au,dL,iM,hv]
 | true =>
  obtain⟨k,rfl,hk⟩:=bD hv
  have ec:=aQ hk
  refine(Qe hl k hk).go [(0,[.d,.f 0])] (by simp[hF,au,dL]) ?_;rintro av X κ ⟨rfl,rfl,rfl⟩;simp[hF,au,dL]
  repeat first|refine n1 ?_|refine rg 2 [5,6] [4] [(2,18)] ?_;simp[hF]
  (try refine nr ?_);(repeat first|refine aF ?_|refine aG ?_);refine ak.o [4] [0] [] ?_;simp[hF,an,aa,ah,au,dL,iM,hv,ec]
theorem LQ(n:ByteArray):ai Tryz.prog 76 [] (.cons (.val (.string n)) .nil) fun av X κ=>av=aN (cS n)∧X=[]∧κ=[]:=by
 refine fb Tryz.func76 Tryz.ntmps76 [.tmp 2] fun w0 I0 F0 hF=>?_
 by_cases h:n=ByteArray.empty
 ·subst h
  have he:(ByteArray.empty=({ data:=#[] }:ByteArray))=True:=eq_true rfl
  repeat first|refine n1 ?_|(first|refine rg 0 [0] [0] [] ?_|refine rg 1 [0] [2] [(2,5)] ?_);simp[hF,he]
  (try refine nr ?_);(repeat first|refine aF ?_|refine aG ?_);refine ak.o [2] [] [] ?_;simp[hF,an,aa,ah,cS]
 ·have h':¬n={ data:=#[] }:=h
  have hs:1≤n.size:=by
   rcases Nat.eq_zero_or_pos n.size with h0|h0
   ·exfalso
    apply h
    obtain⟨d⟩:=n
    have:d=#[]:=Array.eq_empty_of_size_eq_zero h0
    subst this;rfl
   ·exact h0
  repeat first|refine n1 ?_|(first|refine rg 0 [0] [0] [] ?_|refine rg 1 [0] [2] [(2,5)] ?_);simp[hF,h']
  have hd:decide ((n.size:Int)≤40)=cS n:=by
   have:((n.size:Int)≤40)↔n.size≤40:=by omega
   simp[cS,hs,this]
  (try refine nr ?_);(repeat first|refine aF ?_|refine aG ?_);refine ak.o [2] [] [] ?_;simp[hF,an,aa,ah,hd]
theorem Wp(n:ByteArray):ai Tryz.prog 75 [] (.cons (.val (.string n)) .nil) fun av X κ=>av=aN (!cS n)∧X=[]∧κ=[]:=by
 refine fb Tryz.func75 Tryz.ntmps75 [.tmp 2] fun w0 I0 F0 hF=>?_
 repeat first|refine n1 ?_|(first|refine rg 0 [0] [0] [] ?_|refine rg 1 [0] [2] [] ?_);simp[hF]
 refine(LQ n).go [] (by simp[hF]) ?_;rintro av X κ ⟨rfl,rfl,rfl⟩;simp[hF]
 repeat refine n1 ?_
 (try refine nr ?_);(repeat first|refine aF ?_|refine aG ?_);refine ak.o [2] [] [] ?_;simp[hF,an,aa,ah]
def aB (l:List ByteArray):D:=.sl true () 1 (strs l)
@[simp high] theorem YL(l:List ByteArray):aW (aB l)=true:=by rw[aB,aW]
theorem Dq(ex:Bool)(ls:List ByteArray)(hl:ls.length≤100):ai Tryz.prog 115 [aB ls] (.cons (.sub 0 [] 0 ls.length ex) (.cons (.fn 75 .nil) .nil))
  fun av X κ=>av=ag (lZ (fun n=>!cS n) ls)∧X=[aB ls]∧κ=[]:=by
 refine fb Tryz.func115 Tryz.ntmps115 [.tmp 4] fun w0 I0 F0 hF=>?_
 repeat first|refine n1 ?_|refine n3 ?_|(first|refine rg 0 [0,1] [0,1] [] ?_|refine rg 1 [0,1] [0,1,7,8] [] ?_);simp[hF,aB]
 refine VS.rounds (fun m st=>∃(i:Nat),i+m=ls.length∧(∀j,(h:j<ls.length)→j<i→(!cS ls[j])=false)∧st=⟨[(0,.sub 0 [] 0 ls.length ex),(1,.fn 75 .nil),(7,ag ls.length),(8,ag i)],[aB ls],[],[]⟩) ⟨ls.length,0,by omega,by omega,by simp[aB]⟩ ?_
 rintro m st ⟨i,hi,hall,rfl⟩
 repeat first|refine n1 ?_|(first|refine rg 2 [0,1,7,8] [0,1,7,8,9] [] ?_|refine nc ?_);simp[hF,aB]
 refine⟨fun hlt=>?_,fun hge=>?_⟩
 ·have hi':i<ls.length:=by omega
  have hn:=rZ hi'
  repeat first|refine n1 ?_|refine n2 ?_|refine n3 ?_|(first|refine rg 3 [0,1,7,8] [0,1,5,7,8] [] ?_|refine rg 4 [0,1,5,7,8] [0,1,5,7,8,16] [] ?_);simp[hF,aB,hn,hi']
  refine(Wp ls[i]).go [] (by simp[hF,aB]) ?_;rintro av X κ ⟨rfl,rfl,rfl⟩;simp[hF,aB]
  cases hp:cS ls[i] with
  | false =>
   have hr:lZ (fun n=>!cS n) ls=i:=hU hi' (fun j h=>hall j (by omega) h) (by simp[hp])
   repeat first|refine n1 ?_|(first|refine rg 5 [5] [4] [] ?_|refine nc ?_);simp[hF,hp]
   (try refine nr ?_);(repeat first|refine aF ?_|refine aG ?_);refine ak.o [4] [0] [] ?_;simp[hF,an,aa,ah,hr,aB]
  | true =>
   repeat first|refine n2 ?_|refine n4 ?_|refine n5 ?_|refine n6 ?_|(first|refine rg 6 [0,1,7,8] [0,1,7,8] [] ?_|refine nc ?_);simp[hF,hp]
   refine aO.of [0,1,7,8] [0] (m-1) (by omega) (by simp[hF]) ?_
   refine⟨i+1,by omega,?_,?_⟩
   ·intro j hj hji
    rcases Nat.lt_or_ge j i with h'|h'
    ·exact hall j hj h'
    ·obtain rfl:j=i:=by omega
     simp[hp]
   ·simp[aB]
    exact IntWalk.i64_in _ (by omega)
 ·have hr:lZ (fun n=>!cS n) ls=-1:=fV (fun j h=>hall j h (by omega))
  repeat first|refine n1 ?_|refine n7 ?_|refine rg 7 [] [4] [] ?_;simp[hF]
  (try refine nr ?_);(repeat first|refine aF ?_|refine aG ?_);refine ak.o [4] [0] [] ?_;simp[hF,an,aa,ah,hr,aB]
theorem pg(ex:Bool)(ls:List ByteArray)(hl:ls.length≤100):ai Tryz.prog 74 [aB ls] (.cons (.sub 0 [] 0 ls.length ex) (.cons (.fn 75 .nil) .nil))
  fun av X κ=>av=aN (!ls.all cS)∧X=[aB ls]∧κ=[]:=by
 refine fb Tryz.func74 Tryz.ntmps74 [.tmp 4] fun w0 I0 F0 hF=>?_
 repeat first|refine n1 ?_|(first|refine rg 0 [0,1] [0,1] [] ?_|refine rg 1 [0,1] [4] [] ?_);simp[hF]
 refine(Dq ex ls hl).go [(0,[])] (by simp[hF,aB]) ?_;rintro av X κ ⟨rfl,rfl,rfl⟩;simp[hF,aB]
 repeat refine n1 ?_
 have h:decide ((0:Int)≤lZ (fun n=>!cS n) ls) = !ls.all cS:=by
  simp only[qN,Bool.decide_eq_true]
  clear hl hF
  induction ls with
  | nil=>rfl
  | cons a l ih=>simp only[List.any_cons,List.all_cons,ih,Bool.not_and]
 (try refine nr ?_);(repeat first|refine aF ?_|refine aG ?_);refine ak.o [4] [0] [] ?_;simp[hF,an,aa,ah,h,aB]
theorem wu(o:Bool){s:Mt}(h:aR s)(t:Int)(dn:Bool)(ns:List ByteArray)(ex:Bool)(hn:ns.length≤100):ai Tryz.prog 31 [au o s,aB ns] (.cons (.ptr 0 [.d]) (.cons (ag t) (.cons (aN dn) (.cons (.sub 1 [] 0 ns.length ex) .nil))))
  fun av X κ=>av=ag (cB s t dn ns)∧X=[au o s,aB ns]∧κ=[]:=by
 refine fb Tryz.func31 Tryz.ntmps31 [.tmp 8] fun w0 I0 F0 hF=>?_
 repeat first|refine n1 ?_|refine n3 ?_|(first|refine rg 0 [0,1,2,3] [0,1,2,3] [] ?_|refine rg 1 [0,1,2,3] [3,9] [(4,14)] ?_);simp[hF]
 cases hv:val s.L t with
 | false =>
  have he:cB s t dn ns=1:=by simp[cB,hv]
  refine(mG o h t).go [(0,[])] (by simp[hF,au,aB,hv]) ?_;rintro av X κ ⟨rfl,rfl,rfl⟩;simp[hF,au,aB,hv]
  repeat first|refine n1 ?_|(first|refine rg 2 [] [8] [] ?_|refine nc ?_);simp[hF]
  (try refine nr ?_);(repeat first|refine aF ?_|refine aG ?_);refine ak.o [8] [0,1] [] ?_;simp[hF,an,aa,ah,he,au,aB]
 | true =>
  cases dn with
  | false =>
   have he:cB s t false ns=1:=by simp[cB]
   refine(mG o h t).go [(0,[])] (by simp[hF,au,aB,hv]) ?_;rintro av X κ ⟨rfl,rfl,rfl⟩;simp[hF,au,aB,hv]
   repeat first|refine n1 ?_|(first|refine rg 2 [] [8] [] ?_|refine nc ?_);simp[hF]
   (try refine nr ?_);(repeat first|refine aF ?_|refine aG ?_);refine ak.o [8] [0,1] [] ?_;simp[hF,an,aa,ah,he,au,aB]
  | true =>
   refine(mG o h t).go [(0,[])] (by simp[hF,au,aB,hv]) ?_;rintro av X κ ⟨rfl,rfl,rfl⟩;simp[hF,au,aB,hv]
   repeat first|refine n1 ?_|(first|refine rg 3 [3] [18] [] ?_|refine nc ?_);simp[hF]
   cases hb:ns.all cS with
   | false =>
    have he:cB s t true ns=6:=by simp only[cB,hv,hb];rfl
    refine(pg ex ns hn).go [(1,[])] (by simp[hF,aB,hb]) ?_;rintro av X κ ⟨rfl,rfl,rfl⟩;simp[hF,aB,hb]
    repeat first|refine n1 ?_|(first|refine rg 4 [] [8] [] ?_|refine nc ?_);simp[hF]
    (try refine nr ?_);(repeat first|refine aF ?_|refine aG ?_);refine ak.o [8] [0,1] [] ?_;simp[hF,an,aa,ah,he,au,aB]
   | true =>
    have he:cB s t true ns=0:=by simp only[cB,hv,hb];rfl
    refine(pg ex ns hn).go [(1,[])] (by simp[hF,aB,hb]) ?_;rintro av X κ ⟨rfl,rfl,rfl⟩;simp[hF,aB,hb]
    repeat first|refine n1 ?_|refine n2 ?_|refine n4 ?_|(first|refine rg 5 [] [8] [] ?_|refine nc ?_);simp[hF]
    (try refine nr ?_);(repeat first|refine aF ?_|refine aG ?_);refine ak.o [8] [0,1] [] ?_;simp[hF,an,aa,ah,he,au,aB]
theorem lI(o:Bool){s:Mt}(h:aR s)(t:Int)(dn:Bool)(ns:List ByteArray)(ex:Bool)(hn:ns.length≤100):ai Tryz.prog 29 [au o s,aB ns] (.cons (.ptr 0 [.d]) (.cons (ag t) (.cons (aN dn) (.cons (.sub 1 [] 0 ns.length ex) .nil))))
  fun av X κ=>av=ag (bK s t dn ns)∧X=[au o s,aB ns]∧κ=[]:=by
 have hf:=Rj s.fz t
 refine fb Tryz.func29 Tryz.ntmps29 [.tmp 8] fun w0 I0 F0 hF=>?_
 repeat first|refine n1 ?_|(first|refine rg 0 [0,1,2,3] [0,1,2,3] [] ?_|refine rg 1 [0,1,2,3] [0,1,9] [] ?_);simp[hF]
 refine(wu o h t dn ns ex hn).go [(0,[]),(1,[])] (by simp[hF,au,aB]) ?_;rintro av X κ ⟨rfl,rfl,rfl⟩;simp[hF,au,aB]
 by_cases h0:cB s t dn ns=0
 ·cases hg:bF s.fz t with
  | none =>
   rw[hg] at hf
   simp only[Option.map_none] at hf
   have he:bK s t dn ns=0:=by simp[bK,h0,qB,hg]
   repeat first|refine n1 ?_|refine n2 ?_|(first|refine rg 2 [0,1,9] [9,24] [(2,17)] ?_|refine rg 4 [9] [8] [] ?_|refine nc ?_);simp[hF,au,aB,h0,hf]
   (try refine nr ?_);(repeat first|refine aF ?_|refine aG ?_);refine ak.o [8] [0,1] [] ?_;simp[hF,an,aa,ah,au,he,aB]
  | some b =>
   rw[hg] at hf
   simp only[Option.map_some] at hf
   cases b with
   | true =>
    have he:bK s t dn ns=13:=by simp[bK,h0,qB,hg]
    repeat first|refine n1 ?_|(first|refine rg 2 [0,1,9] [9,24] [(2,17)] ?_|refine rg 3 [] [8] [] ?_|refine nc ?_);simp[hF,au,aB,h0,hf]
    (try refine nr ?_);(repeat first|refine aF ?_|refine aG ?_);refine ak.o [8] [0,1] [] ?_;simp[hF,an,aa,ah,au,he,aB]
   | false =>
    have he:bK s t dn ns=0:=by simp[bK,h0,qB,hg]
    repeat first|refine n1 ?_|refine n2 ?_|(first|refine rg 2 [0,1,9] [9,24] [(2,17)] ?_|refine rg 4 [9] [8] [] ?_|refine nc ?_);simp[hF,au,aB,h0,hf]
    (try refine nr ?_);(repeat first|refine aF ?_|refine aG ?_);refine ak.o [8] [0,1] [] ?_;simp[hF,an,aa,ah,au,he,aB]
 ·have he:bK s t dn ns=cB s t dn ns:=by simp[bK,h0]
  repeat first|refine n1 ?_|refine n2 ?_|(first|refine rg 2 [0,1,9] [9,24] [(2,17)] ?_|refine rg 4 [9] [8] [] ?_|refine nc ?_);simp[hF,au,aB,h0]
  (try refine nr ?_);(repeat first|refine aF ?_|refine aG ?_);refine ak.o [8] [0,1] [] ?_;simp[hF,an,aa,ah,au,he,aB]
abbrev za (e:En):AV:=.agg (.cons (ag e.body) (.cons (ag e.Ch) (.cons (ag e.home) (.cons (.val (.string e.known)) .nil))))
abbrev YM (a b:Int):AV:=.agg (.cons (ag a) (.cons (ag b) .nil))
theorem adS{s:Mt}{a b:Int}{n:ByteArray}{e:En}{t:Tb}(l:List (Key×Tb))(h:bF l (a,b)=some t)(hl:cz l (a,b) (cz t n e)=(dH s (a,b) n e).aT):l.set (eB l (a,b)) ((a,b),cz t n e)=(dH s (a,b) n e).aT:=by
 rw[←hl,An h]
theorem fM(s:Mt)(a b:Int)(n:ByteArray)(e:En):ai Tryz.prog 30 [au true s] (.cons (.ptr 0 [.d]) (.cons (YM a b) (.cons (.val (.string n)) (.cons (za e) .nil))))
  fun av X κ=>av=.cT .nil∧X=[au true (dH s (a,b) n e)]∧κ=[(0,[.d])]:=by
 have hfind:=jy true s.aT a b
 refine fbS Tryz.func30 Tryz.ntmps30 [] fun w0 I0 F0 hF=>?_
 cases hg:bF s.aT (a,b) with
 | none =>
  rw[hg] at hfind
  simp only[Option.map_none] at hfind
  have hput:ig (.agg #[.int .i64 a,.int .i64 b]) (.map true () .nil) (gn true s.aT)=gn true (cz s.aT (a,b) []):=LI true s.aT a b []
  have rN:bF (cz s.aT (a,b) []) (a,b)=some []:=by rw[jZ,if_pos rfl]
  have hpe:cz (cz s.aT (a,b) []) (a,b) (cz [] n e)=(dH s (a,b) n e).aT:=by
   show _=cz s.aT (a,b) (cz ((bF s.aT (a,b)).getD []) n e)
   rw[hg]
   exact Rh _ _ _ _
  have dB:=adS (s:=s) (n:=n) (e:=e) _ rN hpe
  have hlt:=mo rN
  have ij:=jz true hlt
  have hi:=hlt.1
  obtain⟨hX,hX2⟩:=o9 (o:=true) rN (.aH ())
  have hnp:=Kp [] n e
  have hmap:=qX true (cz s.aT (a,b) []) (eB (cz s.aT (a,b) []) (a,b)) (a,b) (cz [] n e)
  rw[dB] at hmap
  have Rn:=qW (o:=true) hi (a,b) (.aH ())
  simp only[aK,Ko] at hnp
  simp only[Ko] at ij
  generalize cz s.aT (a,b) []=l at *
  repeat first|refine n1 ?_|(first|refine rg 0 [0,1,2,3] [0,2,5,7] [] ?_|(refine dr 1 0 [0,2,5,7] [0,2,5,7,14] [] [⟨0,1,256,5⟩,⟨1,256,512,5⟩,⟨2,512,1024,5⟩,⟨4,1024,2048,6⟩,⟨0,32,4096,6⟩,⟨24,6144,8192,4⟩,⟨32,8192,16384,5⟩] (.take 0 (.take 1 (.take 2 (.take 3 (.take 4 (.fork (.alt 5 (.take 6 (.done)) (.nil)))))))) (.run [0,1,2,3,4,5,6] (.done)) ?_;simp only[nD])|refine nc ?_);simp[hF,au,hfind]
  refine eP 0 [.d,.f 1] ?_;simp[hF,St.lift,AV.lift,cJ,cK,dV,isNode,au]
  repeat first|(((refine dr 2 0 [0,2,5,7] [0,2,5,7] [] [⟨0,1,32768,5⟩,⟨1,32768,65536,5⟩,⟨2,65536,131072,5⟩,⟨4,131072,262144,6⟩,⟨0,32,524288,6⟩,⟨0,0,1048576,4⟩,⟨63,1835008,0,0⟩] (.take 0 (.take 1 (.take 2 (.take 3 (.take 4 (.fork (.alt 5 (.fork (.alt 6 (.done) (.nil))) (.nil)))))))) (.run [0,1,2,3,4,5,6] (.done)) ?_;simp only[nD]));simp[hF,hput])
  refine eP 3 [.i (eB l (a,b)),.f 1] ?_;simp[hF,St.lift,AV.lift,cJ,cK,dV,isNode,ij,hi]
  repeat first|refine n4 ?_|(((refine dr 3 0 [0,2,5,7] [] [] [⟨0,1,2097152,5⟩,⟨1,2097152,4194304,5⟩,⟨2,4194304,8388608,5⟩,⟨4,8388608,16777216,6⟩,⟨0,32,33554432,6⟩,⟨24,50331648,67108864,4⟩,⟨0,4,134217728,5⟩,⟨0,128,268435456,6⟩,⟨255,469762048,0,0⟩] (.take 0 (.take 1 (.take 2 (.take 3 (.take 4 (.take 6 (.take 7 (.fork (.alt 5 (.fork (.alt 8 (.done) (.nil))) (.nil)))))))))) (.run [0,1,2,3,4,6,7,5,8] (.done)) ?_;simp only[nD]));simp[hF,tR,hX,hX2,hnp])
  (try refine nr ?_);(repeat first|refine aF ?_|refine aG ?_);refine j6.settle 3 [.i (eB l (a,b)),.f 1] (.mp 5 []) (by simp) (by simp) (by simp[hF,Tk.tree,hi,fL,hmap,Rn]) (by simp[hF,Tk.tree,hi,fL,hmap,Rn]) ?_;simp[hF,St.settle,Tk.tree,hi,fL,hmap,Rn]
  (try refine nr ?_);(repeat first|refine aF ?_|refine aG ?_);refine j6.settle 0 [.d,.f 1] (.mp 3 []) (by simp) (by simp) (by simp[hF,Tk.tree]) (by simp[hF,Tk.tree]) ?_;simp[hF,St.settle,Tk.tree]
  (try refine nr ?_);(repeat first|refine aF ?_|refine aG ?_);refine j6.of ?_;refine ak.o [] [0] [(0,[.d])] ?_;simp[hF,an,aa,ah,au]
 | some t =>
  rw[hg] at hfind
  simp only[Option.map_some] at hfind
  have hpe:cz s.aT (a,b) (cz t n e)=(dH s (a,b) n e).aT:=by
   show _=cz s.aT (a,b) (cz ((bF s.aT (a,b)).getD []) n e)
   rw[hg];rfl
  have dB:=adS (s:=s) (n:=n) (e:=e) _ hg hpe
  have hlt:=mo hg
  have ij:=jz true hlt
  have hi:=hlt.1
  obtain⟨hX,hX2⟩:=o9 (o:=true) hg (.aH ())
  have hnp:=Kp t n e
  simp only[aK] at hnp
  have hmap:=qX true s.aT (eB s.aT (a,b)) (a,b) (cz t n e)
  rw[dB] at hmap
  have Rn:=qW (o:=true) hi (a,b) (.aH ())
  repeat first|refine n1 ?_|refine n2 ?_|(first|refine rg 0 [0,1,2,3] [0,2,5,7] [] ?_|(refine dr 1 0 [0,2,5,7] [0,2,5,7,14] [] [⟨0,1,256,5⟩,⟨1,256,512,5⟩,⟨2,512,1024,5⟩,⟨4,1024,2048,6⟩,⟨0,32,4096,6⟩,⟨24,6144,8192,4⟩,⟨32,8192,16384,5⟩] (.take 0 (.take 1 (.take 2 (.take 3 (.take 4 (.fork (.alt 5 (.take 6 (.done)) (.nil)))))))) (.run [0,1,2,3,4,5,6] (.done)) ?_;simp only[nD])|refine nc ?_);simp[hF,au,hfind]
  refine eP 0 [.d,.f 1] ?_;simp[hF,St.lift,AV.lift,cJ,cK,dV,isNode,au]
  refine eP 3 [.i (eB s.aT (a,b)),.f 1] ?_;simp[hF,St.lift,AV.lift,cJ,cK,dV,isNode,ij,hi]
  repeat first|refine n4 ?_|(((refine dr 3 0 [0,2,5,7] [] [] [⟨0,1,2097152,5⟩,⟨1,2097152,4194304,5⟩,⟨2,4194304,8388608,5⟩,⟨4,8388608,16777216,6⟩,⟨0,32,33554432,6⟩,⟨24,50331648,67108864,4⟩,⟨0,4,134217728,5⟩,⟨0,128,268435456,6⟩,⟨255,469762048,0,0⟩] (.take 0 (.take 1 (.take 2 (.take 3 (.take 4 (.take 6 (.take 7 (.fork (.alt 5 (.fork (.alt 8 (.done) (.nil))) (.nil)))))))))) (.run [0,1,2,3,4,6,7,5,8] (.done)) ?_;simp only[nD]));simp[hF,tR,hX,hX2,hnp])
  (try refine nr ?_);(repeat first|refine aF ?_|refine aG ?_);refine j6.settle 3 [.i (eB s.aT (a,b)),.f 1] (.mp 4 []) (by simp) (by simp) (by simp[hF,Tk.tree,hi,fL,hmap,Rn]) (by simp[hF,Tk.tree,hi,fL,hmap,Rn]) ?_;simp[hF,St.settle,Tk.tree,hi,fL,hmap,Rn]
  (try refine nr ?_);(repeat first|refine aF ?_|refine aG ?_);refine j6.settle 0 [.d,.f 1] (.mp 3 []) (by simp) (by simp) (by simp[hF,Tk.tree]) (by simp[hF,Tk.tree]) ?_;simp[hF,St.settle,Tk.tree]
  (try refine nr ?_);(repeat first|refine aF ?_|refine aG ?_);refine j6.of ?_;refine ak.o [] [0] [(0,[.d])] ?_;simp[hF,an,aa,ah,au]
theorem tQ{s:Mt}(h:aR s)(t:Int)(n:ByteArray)(b v:Int):ai Tryz.prog 11 [au true s] (.cons (.ptr 0 [.d]) (.cons (ag t) (.cons (.val (.string n)) (.cons (ag b) (.cons (ag v) .nil)))))
  fun av X κ=>av=ag (bt s t n b v).2∧X=[au true (bt s t n b v).1]∧κ=[(0,[.d])]:=by
 refine fb Tryz.func11 Tryz.ntmps11 [.tmp 10] fun w0 I0 F0 hF=>?_
 obtain⟨dn,j7⟩:∃f,f=(dw b&&fZ v):=⟨_,rfl⟩
 have hch:=lI true h t dn [n] true (by simp)
 have hd:bt s t n b v=if bK s t dn [n]=0 then (dH s (t,-1) n ⟨b,v,t,n⟩,0) else (s,bK s t dn [n]):=by rw[j7];rfl
 rw[hd]
 by_cases h1:0≤b
 ·by_cases h2:b≤1000000
  ·by_cases h3:0≤v
   ·have hv:decide (v≤2)=dn:=by simp[j7,dw,fZ,h1,h2,h3]
    repeat first|refine n1 ?_|(first|refine rg 0 [0,1,2,3,4] [0,1,2,3,4] [] ?_|refine rg 1 [0,1,2,3,4] [0,1,2,3,4,11] [(4,16),(8,20),(12,24)] ?_);simp[hF,h1,h2,h3,hv]
    clear hd j7 hv
    refine(hch).go [(0,[]),(1,[])] (by simp[hF,au,aB,b9]) ?_;rintro av X κ ⟨rfl,rfl,rfl⟩;simp[hF,au,aB,b9]
    by_cases h0:bK s t dn [n]=0
    ·repeat first|refine n1 ?_|(first|refine rg 2 [0,1,2,3,4,11] [0,1,2,3,4,11,32] [] ?_|refine rg 3 [0,1,2,3,4,11] [11] [] ?_|refine nc ?_);simp[hF,h0]
     refine(fM s t (-1) n ⟨b,v,t,n⟩).go [(0,[])] (by simp[hF,au]) ?_;rintro av X κ ⟨rfl,rfl,rfl⟩;simp[hF,au]
     repeat first|refine n1 ?_|refine rg 4 [11] [10] [] ?_;simp[hF]
     (try refine nr ?_);(repeat first|refine aF ?_|refine aG ?_);refine ak.o [10] [0] [(0,[.d])] ?_;simp[hF,an,aa,ah,au,h0]
    ·repeat first|refine n1 ?_|refine n2 ?_|(first|refine rg 2 [0,1,2,3,4,11] [0,1,2,3,4,11,32] [] ?_|refine rg 4 [11] [10] [] ?_|refine nc ?_);simp[hF,h0]
     (try refine nr ?_);(repeat first|refine aF ?_|refine aG ?_);refine ak.o [10] [0] [(0,[.d])] ?_;simp[hF,an,aa,ah,au,h0]
   ·have hv:dn=false:=by simp[j7,dw,fZ,h3]
    subst hv
    have h0:¬bK s t false [n]=0:=by simp[bK,cB]
    repeat first|refine n1 ?_|(first|refine rg 0 [0,1,2,3,4] [0,1,2,3,4] [] ?_|refine rg 1 [0,1,2,3,4] [0,1,2,3,4,11] [(4,16),(8,20),(12,24)] ?_);simp[hF,h1,h2,h3]
    refine(hch).go [(0,[]),(1,[])] (by simp[hF,au,aB,b9]) ?_;rintro av X κ ⟨rfl,rfl,rfl⟩;simp[hF,au,aB,b9]
    repeat first|refine n1 ?_|refine n2 ?_|(first|refine rg 2 [0,1,2,3,4,11] [0,1,2,3,4,11,32] [] ?_|refine rg 4 [11] [10] [] ?_|refine nc ?_);simp[hF,h0]
    (try refine nr ?_);(repeat first|refine aF ?_|refine aG ?_);refine ak.o [10] [0] [(0,[.d])] ?_;simp[hF,an,aa,ah,au,h0]
  ·have hv:dn=false:=by simp[j7,dw,fZ,h2]
   subst hv
   have h0:¬bK s t false [n]=0:=by simp[bK,cB]
   repeat first|refine n1 ?_|(first|refine rg 0 [0,1,2,3,4] [0,1,2,3,4] [] ?_|refine rg 1 [0,1,2,3,4] [0,1,2,3,4,11] [(4,16),(8,20),(12,24)] ?_);simp[hF,h1,h2]
   refine(hch).go [(0,[]),(1,[])] (by simp[hF,au,aB,b9]) ?_;rintro av X κ ⟨rfl,rfl,rfl⟩;simp[hF,au,aB,b9]
   repeat first|refine n1 ?_|refine n2 ?_|(first|refine rg 2 [0,1,2,3,4,11] [0,1,2,3,4,11,32] [] ?_|refine rg 4 [11] [10] [] ?_|refine nc ?_);simp[hF,h0]
   (try refine nr ?_);(repeat first|refine aF ?_|refine aG ?_);refine ak.o [10] [0] [(0,[.d])] ?_;simp[hF,an,aa,ah,au,h0]
 ·have hv:dn=false:=by simp[j7,dw,fZ,h1]
  subst hv
  have h0:¬bK s t false [n]=0:=by simp[bK,cB]
  repeat first|refine n1 ?_|(first|refine rg 0 [0,1,2,3,4] [0,1,2,3,4] [] ?_|refine rg 1 [0,1,2,3,4] [0,1,2,3,4,11] [(4,16),(8,20),(12,24)] ?_);simp[hF,h1]
  refine(hch).go [(0,[]),(1,[])] (by simp[hF,au,aB,b9]) ?_;rintro av X κ ⟨rfl,rfl,rfl⟩;simp[hF,au,aB,b9]
  repeat first|refine n1 ?_|refine n2 ?_|(first|refine rg 2 [0,1,2,3,4,11] [0,1,2,3,4,11,32] [] ?_|refine rg 4 [11] [10] [] ?_|refine nc ?_);simp[hF,h0]
  (try refine nr ?_);(repeat first|refine aF ?_|refine aG ?_);refine ak.o [10] [0] [(0,[.d])] ?_;simp[hF,an,aa,ah,au,h0]
theorem zb{s:Mt}(h:aR s)(m t:Int)(n:ByteArray)(b:Int):ai Tryz.prog 46 [au true s] (.cons (.ptr 0 [.d]) (.cons (ag m) (.cons (ag t) (.cons (.val (.string n)) (.cons (ag b) .nil)))))
  fun av X κ=>av=ag (cC s m t n b).2∧X=[au true (cC s m t n b).1]∧κ=[(0,[.d])]:=by
 refine fb Tryz.func46 Tryz.ntmps46 [.tmp 10] fun w0 I0 F0 hF=>?_
 obtain⟨dn,j7⟩:∃f,f=(iM s m&&dw b):=⟨_,rfl⟩
 have hch:=wu true h t dn [n] true (by simp)
 have hd:cC s m t n b=if cB s t dn [n]=0 then (dH s (t,m) n ⟨b,0,t,n⟩,0) else (s,cB s t dn [n]):=by rw[j7];rfl
 rw[hd]
 repeat first|refine n1 ?_|(first|refine rg 0 [0,1,2,3,4] [0,1,2,3,4] [] ?_|refine rg 1 [0,1,2,3,4] [0,1,2,3,4,11] [(5,17),(10,22),(14,26)] ?_);simp[hF]
 refine(nP true s).go [(0,[])] (by simp[hF,au]) ?_;rintro av X κ ⟨rfl,rfl,rfl⟩;simp[hF,au]
 cases hm:iM s m with
 | false =>
  have hv:dn=false:=by simp[j7,hm]
  subst hv
  have h0:¬cB s t false [n]=0:=by simp[cB]
  refine(Az true h m).go [(0,[])] (by simp[hF,au,hm]) ?_;rintro av X κ ⟨rfl,rfl,rfl⟩;simp[hF,au,hm]
  refine(hch).go [(0,[]),(1,[])] (by simp[hF,au,aB,b9]) ?_;rintro av X κ ⟨rfl,rfl,rfl⟩;simp[hF,au,aB,b9]
  repeat first|refine n1 ?_|refine n2 ?_|(first|refine rg 2 [0,1,2,3,4,11] [0,1,2,3,4,11,34] [] ?_|refine rg 4 [11] [10] [] ?_|refine nc ?_);simp[hF,h0]
  (try refine nr ?_);(repeat first|refine aF ?_|refine aG ?_);refine ak.o [10] [0] [(0,[.d])] ?_;simp[hF,an,aa,ah,au,h0]
 | true =>
  by_cases h1:0≤b
  ·have hv:decide (b≤1000000)=dn:=by simp[j7,hm,dw,h1]
   refine(Az true h m).go [(0,[])] (by simp[hF,au,hm,h1,hv]) ?_;rintro av X κ ⟨rfl,rfl,rfl⟩;simp[hF,au,hm,h1,hv]
   clear hd j7 hv
   refine(hch).go [(0,[]),(1,[])] (by simp[hF,au,aB,b9]) ?_;rintro av X κ ⟨rfl,rfl,rfl⟩;simp[hF,au,aB,b9]
   by_cases h0:cB s t dn [n]=0
   ·repeat first|refine n1 ?_|(first|refine rg 2 [0,1,2,3,4,11] [0,1,2,3,4,11,34] [] ?_|refine rg 3 [0,1,2,3,4,11] [11] [] ?_|refine nc ?_);simp[hF,h0]
    refine(fM s t m n ⟨b,0,t,n⟩).go [(0,[])] (by simp[hF,au]) ?_;rintro av X κ ⟨rfl,rfl,rfl⟩;simp[hF,au]
    repeat first|refine n1 ?_|refine rg 4 [11] [10] [] ?_;simp[hF]
    (try refine nr ?_);(repeat first|refine aF ?_|refine aG ?_);refine ak.o [10] [0] [(0,[.d])] ?_;simp[hF,an,aa,ah,au,h0]
   ·repeat first|refine n1 ?_|refine n2 ?_|(first|refine rg 2 [0,1,2,3,4,11] [0,1,2,3,4,11,34] [] ?_|refine rg 4 [11] [10] [] ?_|refine nc ?_);simp[hF,h0]
    (try refine nr ?_);(repeat first|refine aF ?_|refine aG ?_);refine ak.o [10] [0] [(0,[.d])] ?_;simp[hF,an,aa,ah,au,h0]
  ·have hv:dn=false:=by simp[j7,dw,h1]
   subst hv
   have h0:¬cB s t false [n]=0:=by simp[cB]
   refine(Az true h m).go [(0,[])] (by simp[hF,au,hm,h1]) ?_;rintro av X κ ⟨rfl,rfl,rfl⟩;simp[hF,au,hm,h1]
   refine(hch).go [(0,[]),(1,[])] (by simp[hF,au,aB,b9]) ?_;rintro av X κ ⟨rfl,rfl,rfl⟩;simp[hF,au,aB,b9]
   repeat first|refine n1 ?_|refine n2 ?_|(first|refine rg 2 [0,1,2,3,4,11] [0,1,2,3,4,11,34] [] ?_|refine rg 4 [11] [10] [] ?_|refine nc ?_);simp[hF,h0]
   (try refine nr ?_);(repeat first|refine aF ?_|refine aG ?_);refine ak.o [10] [0] [(0,[.d])] ?_;simp[hF,an,aa,ah,au,h0]
theorem Lu{s:Mt}(h:aR s)(t:Int):ai Tryz.prog 58 [au true s] (.cons (.ptr 0 [.d]) (.cons (ag t) .nil))
  fun av X κ=>av=ag (cD s t).2∧X=[au true (cD s t).1]∧κ=[(0,[.d])]:=by
 have hput:=Wk s.fz t true
 refine fbS Tryz.func58 Tryz.ntmps58 [.tmp 4] fun w0 I0 F0 hF=>?_
 cases hv:val s.L t with
 | false =>
  have he:cD s t=(s,1):=by simp[cD,hv]
  repeat first|refine n1 ?_|(first|refine rg 0 [0,1] [0,1] [] ?_|refine rg 1 [0,1] [0,1,8] [] ?_);simp[hF]
  refine(mG true h t).go [(0,[])] (by simp[hF,au,hv]) ?_;rintro av X κ ⟨rfl,rfl,rfl⟩;simp[hF,au,hv]
  repeat first|refine n1 ?_|(first|refine rg 2 [] [4] [] ?_|refine nc ?_);simp[hF]
  (try refine nr ?_);(repeat first|refine aF ?_|refine aG ?_);refine j6.of ?_;refine ak.o [4] [0] [(0,[.d])] ?_;simp[hF,an,aa,ah,au,he]
 | true =>
  have he:cD s t=({ s with fz:=cz s.fz t true },0):=by simp[cD,hv]
  repeat first|refine n1 ?_|(first|refine rg 0 [0,1] [0,1] [] ?_|refine rg 1 [0,1] [0,1,8] [] ?_);simp[hF]
  refine(mG true h t).go [(0,[])] (by simp[hF,au,hv]) ?_;rintro av X κ ⟨rfl,rfl,rfl⟩;simp[hF,au,hv]
  repeat first|refine n1 ?_|refine n2 ?_|refine nc ?_;simp[hF]
  refine eP 0 [.d,.f 2] ?_;simp[hF,St.lift,AV.lift,cJ,cK,dV,isNode,au]
  repeat first|refine n1 ?_|(first|refine rg 3 [0,1] [] [] ?_|refine rg 4 [] [4] [] ?_);simp[hF,hput]
  (try refine nr ?_);(repeat first|refine aF ?_|refine aG ?_);refine j6.settle 0 [.d,.f 2] (.mp 1 []) (by simp) (by simp) (by simp[hF,Tk.tree]) (by simp[hF,Tk.tree]) ?_;simp[hF,St.settle,Tk.tree]
  (try refine nr ?_);(repeat first|refine aF ?_|refine aG ?_);refine j6.of ?_;refine ak.o [4] [0] [(0,[.d])] ?_;simp[hF,an,aa,ah,au,he]
def Ro (l:List Key):D:=sq (l.map fun k=>.agg (.cons (.val (.int .i64 k.1)) (.cons (.val (.int .i64 k.2)) .nil)))
def bB (l:List Key):D:=.sl true () 2 (Ro l)
@[simp high] theorem aac(l:List Key):aW (bB l)=true:=by rw[bB,aW]
@[simp] theorem afa(l:List Key):(Ro l).len=l.length:=by simp[Ro]
theorem Af{l:List Key}{i:Nat}(h:i<l.length):(Ro l).nth i=.agg (.cons (.val (.int .i64 l[i].1)) (.cons (.val (.int .i64 l[i].2)) .nil)):=by
 rw[Ro,ep (by simpa using h)];simp
theorem Dr(l:List Key)(a b:Int):(Ro l).app (.cons (.agg (.cons (.val (.int .i64 a)) (.cons (.val (.int .i64 b)) .nil))) .nil)=Ro (l++[(a,b)]):=by
 simp only[Ro,List.map_append,←gQ];rfl
@[simp] theorem uE(l:List Key):(Ro l).mid 0 l.length=Ro l:=aV _ _ (by simp)
def bR (f:Fo):D:=.agg (.cons (aK f.e) (.cons (.val (.int .i64 f.th)) (.cons (.val (.int .i64 f.md)) .nil)))
@[simp] theorem ab8(f:Fo):(bR f).width=6:=rfl
abbrev o6 (f:Fo):AV:=.agg (.cons (za f.e) (.cons (ag f.th) (.cons (ag f.md) .nil)))
def kM (f:Fo×Bool):D:=.box true () (bR f.1)
@[simp high] theorem ab9(f:Fo×Bool):aW (kM f)=true:=by rw[kM,aW]
abbrev Df (f:Fo×Bool):AV:=.cT (.cons (o6 f.1) (.cons (aN f.2) .nil))
def gV (x:Int) (act:List Int):List Key:=act.map (fun m=>(x,m))++[(x,-1)]
def AA (x:Int) (act:List Int) (j:Nat):List Key:=(act.take j).map fun m=>(x,m)
theorem Dt(x:Int)(act:List Int)(j:Nat):(AA x act j).length≤act.length:=by simp only[AA,List.length_map,List.length_take];omega
theorem LS{x:Int}{act:List Int}{j:Nat}(h:j<act.length):AA x act (j+1)=AA x act j++[(x,act[j])]:=by
 unfold AA
 rw[List.take_add_one,List.getElem?_eq_getElem h,List.map_append];rfl
theorem Rp(x:Int)(act:List Int):gV x act=AA x act act.length++[(x,-1)]:=by rw[AA,List.take_length,gV]
theorem LU(x:Int)(act:List Int):AA x act 0=[]:=rfl
def qY (pre:List Key) (x:Int) (act:List Int) (j:Nat):List Key:=pre++AA x act j
def gp (l act:List Int):List Key:=l.flatMap fun x=>gV x act
theorem AB{l act:List Int}{i:Nat}(hi:i<l.length):gp (l.take (i+1)) act=gp (l.take i) act++gV l[i] act:=by
 simp only[gp]
 rw[List.take_add_one,List.getElem?_eq_getElem hi,List.flatMap_append];simp
theorem uF(l act:List Int):(gp l act).length=l.length*(act.length+1):=by
 induction l with
 | nil=>simp[gp]
 | cons x l ih =>
  have:gp (x::l) act=gV x act++gp l act:=rfl
  rw[this,List.length_append,ih]
  simp only[gV,List.length_append,List.length_map,List.length_cons,List.length_nil,Nat.succ_mul];omega
theorem GL(l act:List Int)(i:Nat):(gp (l.take i) act).length≤l.length*(act.length+1):=by
 rw[uF]
 exact Nat.mul_le_mul_right _ (by rw[List.length_take];omega)
theorem tI(o:Bool){s:Mt}(h:aR s)(t:Nat)(ht:t<s.L.length)(act:List Int)(ex:Bool)(ha:act.length≤1000):ai Tryz.prog 81 [au o s] (.cons (.ptr 0 [.d]) (.cons (ag t) (.cons (.cA 1 (aj act) ex) .nil)))
  fun av X κ=>av=.sub 1 [] 0 (placesOf s t act).length false∧X=[au o s,bB (placesOf s t act)]∧κ=[]:=by
 have W:=h.ok.wf
 have va:(aP s.L t).length≤1000:=W.base.elim fun _ B=>dW B ht (W.ord ht)
 have hp:placesOf s t act=gp (aP s.L t) act:=rfl
 rw[hp]
 have hall:(aP s.L t).length*(act.length+1)≤1001000:=Nat.le_trans (Nat.mul_le_mul va (show act.length+1≤1001 by omega)) (by omega)
 refine fb Tryz.func81 Tryz.ntmps81 [.tmp 6] fun w0 I0 F0 hF=>?_
 repeat first|refine n1 ?_|(first|refine rg 0 [0,1,2] [0,1,2] [] ?_|refine rg 1 [0,1,2] [2,7] [] ?_);simp[hF,au,dL]
 refine(KS W t ht).go [(0,[.d,.f 0])] (by simp[hF,au,dL]) ?_;rintro av X κ ⟨rfl,rfl,rfl⟩;simp[hF,au,dL]
 generalize aP s.L t=od at *
 repeat first|refine n1 ?_|refine n3 ?_|(first|refine rg 2 [2,7] [2,7,9] [] ?_|refine rg 3 [2,7,9] [2,9,23,24,25] [] ?_);simp[hF]
 refine VS.eT 9 2 (by simp) ?_
 refine VS.pick [2,9,23,24,25] [0,1] (by simp[hF]) ?_;simp[hF]
 refine VS.rounds (fun m st=>∃(i:Nat),i+m=od.length∧st=⟨[(2,.cA 1 (aj act) ex),(9,.sub 1 [] 0 (gp (od.take i) act).length false),(23,.cA 1 (aj od) false),(24,ag od.length),(25,ag i)],[au o s,bB (gp (od.take i) act)],[],[]⟩) ⟨od.length,0,by omega,by simp[gp,au,bB,Ro,dL]⟩ ?_
 rintro m st ⟨i,hi,rfl⟩
 repeat first|refine n1 ?_|(first|refine rg 4 [2,9,23,24,25] [2,9,23,24,25,26] [] ?_|refine nc ?_);simp[hF,au,bB]
 refine⟨fun hlt=>?_,fun hge=>?_⟩
 ·have hi':i<od.length:=by omega
  have hn:=bP hi'
  have dQ:=AB (act:=act) hi'
  have hle:=GL od act (i+1)
  rw[dQ] at hle
  generalize hpre:gp (od.take i) act=pre at *
  repeat first|refine n1 ?_|refine n2 ?_|refine n3 ?_|(first|refine rg 5 [2,9,23,24,25] [2,9,11,23,24,25] [] ?_|refine rg 6 [2,9,11,23,24,25] [2,9,11,23,24,25,29,30,31] [] ?_);simp[hF,hn,hi']
  generalize od[i]=x at *
  refine VS.pick [2,9,11,23,24,25,29,30,31] [0,1] (by simp[hF]) ?_;simp[hF]
  refine VS.rounds (fun m2 st=>∃(j:Nat),j+m2=act.length∧st=⟨[(2,.cA 1 (aj act) ex),(9,.sub 1 [] 0 (qY pre x act j).length false),(11,ag x),(23,.cA 1 (aj od) false),(24,ag od.length),(25,ag i),(29,.cA 1 (aj act) ex),(30,ag act.length),(31,ag j)],
   [au o s,bB (qY pre x act j)],[],[]⟩) ⟨act.length,0,by omega,by simp[au,bB,LU,qY]⟩ ?_
  rintro m2 st ⟨j,hj,rfl⟩
  repeat first|refine n1 ?_|(first|refine rg 7 [2,9,11,23,24,25,29,30,31] [2,9,11,23,24,25,29,30,31,32] [] ?_|refine nc ?_);simp[hF,au,bB]
  refine⟨fun rQ=>?_,fun aft=>?_⟩
  ·have hj':j<act.length:=by omega
   have hn2:=bP hj'
   have ht2:=LS (x:=x) hj'
   have hl2:(qY pre x act j).length≤1001000:=by
    have:=Dt x act j
    simp only[gV,qY,List.length_append,List.length_map] at hle ⊢;omega
   have aad:qY pre x act (j+1)=qY pre x act j++[(x,act[j])]:=by rw[qY,ht2,qY,List.append_assoc]
   generalize qY pre x act j=q at *
   have dD:=Dr q x act[j]
   have hmid:=uE (q++[(x,act[j])])
   have b1:(q.length+1)*16≤140737488355328:=by omega
   have b2:q.length+1≤9223372036854775807:=by omega
   have hw:IntKind.i64.wrap ((j:Int)+1)=((j+1:Nat):Int):=by rw[IntWalk.i64_in _ (by omega)];rfl
   repeat first|refine n1 ?_|refine n2 ?_|refine n3 ?_|refine n4 ?_|refine n5 ?_|refine n6 ?_|(first|refine rg 8 [2,9,11,23,24,25,29,30,31] [2,9,11,13,23,24,25,29,30,31] [] ?_|refine rg 9 [2,9,11,13,23,24,25,29,30,31] [2,9,11,23,24,25,29,30,31] [] ?_|refine rg 10 [2,9,11,23,24,25,29,30,31] [2,9,11,23,24,25,29,30,31] [] ?_);simp[hF,hn2,hj',dD,b1,b2,hw]
   refine aO.of [2,9,11,23,24,25,29,30,31] [0,1] (m2-1) (by omega) (by simp[hF]) ?_
   refine⟨j+1,by omega,?_⟩
   rw[aad]
   simp[au,bB]
  ·obtain rfl:j=act.length:=by omega
   have hl2:(qY pre x act act.length).length≤1001000:=by
    have:=Dt x act act.length
    simp only[gV,qY,List.length_append,List.length_map] at hle ⊢;omega
   have aad:pre++gV x act=qY pre x act act.length++[(x,-1)]:=by rw[Rp,qY,List.append_assoc]
   rw[aad] at dQ
   generalize qY pre x act act.length=q at *
   have dD:=Dr q x (-1)
   have hmid:=uE (q++[(x,-1)])
   have b1:(q.length+1)*16≤140737488355328:=by omega
   have b2:q.length+1≤9223372036854775807:=by omega
   have hw:IntKind.i64.wrap ((i:Int)+1)=((i+1:Nat):Int):=by rw[IntWalk.i64_in _ (by omega)];rfl
   repeat first|refine n4 ?_|refine n5 ?_|refine n6 ?_|refine n7 ?_|refine n8 ?_|refine n0 ?_|(first|refine rg 11 [2,9,11,23,24,25] [2,9,23,24,25] [] ?_|refine rg 12 [2,9,23,24,25] [2,9,23,24,25] [] ?_);simp[hF,dD,b1,b2,hw]
   refine aO.of [2,9,23,24,25] [0,1] (m-1) (by omega) (by simp[hF]) ?_
   refine⟨i+1,by omega,?_⟩
   rw[dQ]
   simp[au,bB]
 ·obtain rfl:i=od.length:=by omega
  rw[List.take_length]
  repeat first|refine n1 ?_|refine n7 ?_|refine rg 13 [9] [6] [] ?_;simp[hF]
  (try refine nr ?_);(repeat first|refine aF ?_|refine aG ?_);refine ak.o [6] [0,1] [] ?_;simp[hF,an,aa,ah,au,bB]
theorem wv(o:Bool)(s:Mt)(l:List Key)(lo m:Nat)(hlo:lo+m=l.length)(hm:m≤2000000)(ex:Bool)(n:ByteArray):ai Tryz.prog 80 [au o s,bB l] (.cons (.ptr 0 [.d]) (.cons (.sub 1 [] lo m ex) (.cons (.val (.string n)) .nil)))
  fun av X κ=>av=Df (aY s (l.drop lo) n)∧X=[au o s,bB l,kM (aY s (l.drop lo) n)]∧κ=[]:=by
 refine fb Tryz.func80 Tryz.ntmps80 [.cell 6 43,.tmp 7] fun w0 I0 F0 hF=>?_
 repeat first|refine n1 ?_|refine n3 ?_|(first|refine rg 0 [0,1,2] [0,1,2,6] [] ?_|refine rg 1 [0,1,2,6] [0,2,6,12,13,14] [] ?_);simp[hF,bB]
 refine VS.pick [0,2,6,12,13,14] [0,1,2] (by simp[hF]) ?_;simp[hF]
 refine VS.rounds (fun q st=>∃(i:Nat),i+q=m∧aY s (l.drop lo) n=aY s (l.drop (lo+i)) n∧st=⟨[(0,.ptr 0 [.d]),(2,.val (.string n)),(6,.ptr 2 [.d]),(12,.sub 1 [] lo m ex),(13,ag m),(14,ag i)],[au o s,bB l,.box true () (bR Fo.none)],[],[]⟩) ⟨m,0,by omega,rfl,by simp[au,bB,bR,Fo.none,En.none,aK]⟩ ?_
 rintro q st ⟨i,hi,hf,rfl⟩
 repeat first|refine n1 ?_|(first|refine rg 2 [0,2,6,12,13,14] [0,2,6,12,13,14,15] [] ?_|refine nc ?_);simp[hF,bB]
 refine⟨fun hlt=>?_,fun hge=>?_⟩
 ·have hi':i<m:=by omega
  have hil:lo+i<l.length:=by omega
  have hn:=Af hil
  have vH:l.drop (lo+i)=l[lo+i]::l.drop (lo+(i+1)):=by rw[List.drop_eq_getElem_cons hil];rfl
  rw[vH] at hf
  obtain⟨⟨a,b⟩,hk⟩:∃k,l[lo+i]=k:=⟨_,rfl⟩
  rw[hk] at hf hn
  simp only[aY,iO] at hf
  have hfind:=jy o s.aT a b
  have rY:=o4 o s.aT a b
  have hw:IntKind.i64.wrap ((i:Int)+1)=((i+1:Nat):Int):=by rw[IntWalk.i64_in _ (by omega)];rfl
  cases hg:bF s.aT (a,b) with
  | none =>
   rw[hg] at hfind hf
   simp only[Option.map_none,Option.bind_none] at hfind hf
   repeat first|refine n1 ?_|refine n2 ?_|refine n3 ?_|refine n4 ?_|refine n5 ?_|refine n6 ?_|(first|refine rg 3 [0,2,6,12,13,14] [0,2,6,9,12,13,14] [] ?_|(refine dr 4 0 [0,2,6,9,12,13,14] [0,2,6,9,10,11,12,13,14] [] [⟨0,1,524288,5⟩,⟨1,524288,1048576,5⟩,⟨2,1048576,2097152,5⟩,⟨4,2097152,4194304,6⟩,⟨0,512,8388608,6⟩,⟨24,12582912,16777216,4⟩,⟨0,4,33554432,5⟩,⟨96,50331648,67108864,4⟩,⟨128,67108864,262144,5⟩,⟨256,262144,134217728,5⟩,⟨256,262144,268435456,5⟩,⟨0,0,1024,4⟩,⟨3071,134218752,0,0⟩,⟨8191,268435456,2048,5⟩] (.take 0 (.take 1 (.take 2 (.take 3 (.take 4 (.take 6 (.fork (.alt 5 (.fork (.alt 7 (.take 8 (.take 9 (.take 10 (.fork (.alt 11 (.fork (.alt 12 (.take 13 (.done)) (.nil))) (.nil)))))) (.alt 11 (.fork (.alt 7 (.take 8 (.take 9 (.take 10 (.fork (.alt 12 (.take 13 (.done)) (.nil)))))) (.nil))) (.nil)))) (.alt 11 (.fork (.alt 5 (.fork (.alt 7 (.take 8 (.take 9 (.take 10 (.fork (.alt 12 (.take 13 (.done)) (.nil)))))) (.nil))) (.nil))) (.nil)))))))))) (.run [0,1,2,3,4,6] (.both (.run [5] (.both (.run [7,8,9,10,11,12,13] (.done)) (.run [11,7,8,9,10,12,13] (.done)))) (.run [11,5,7,8,9,10,12,13] (.done)))) ?_;simp only[nD])|refine rg 5 [0,2,6,9,10,11,12,13,14] [0,2,6,9,10,12,13,14,29] [] ?_|refine rg 7 [0,2,6,12,13,14] [0,2,6,12,13,14] [] ?_|refine nc ?_);simp[hF,au,bB,hn,hi',hil,hfind,hw]
   refine aO.of [0,2,6,12,13,14] [0,1,2] (q-1) (by omega) (by simp[hF]) ?_
   exact⟨i+1,by omega,hf,by simp[au,bB]⟩
  | some t =>
   rw[hg] at hfind hf
   simp only[Option.map_some,Option.bind_some] at hfind hf
   obtain⟨rQ,hat⟩:=mo hg
   have ij:=jz o ⟨rQ,hat⟩
   have hnf:=sd t n
   cases rN:bF t n with
   | none =>
    rw[rN] at hnf hf
    simp only[Option.map_none] at hnf hf
    repeat first|refine n1 ?_|refine n2 ?_|refine n3 ?_|refine n4 ?_|refine n5 ?_|refine n6 ?_|(first|refine rg 3 [0,2,6,12,13,14] [0,2,6,9,12,13,14] [] ?_|(refine dr 4 0 [0,2,6,9,12,13,14] [0,2,6,9,10,11,12,13,14] [] [⟨0,1,524288,5⟩,⟨1,524288,1048576,5⟩,⟨2,1048576,2097152,5⟩,⟨4,2097152,4194304,6⟩,⟨0,512,8388608,6⟩,⟨24,12582912,16777216,4⟩,⟨0,4,33554432,5⟩,⟨96,50331648,67108864,4⟩,⟨128,67108864,262144,5⟩,⟨256,262144,134217728,5⟩,⟨256,262144,268435456,5⟩,⟨0,0,1024,4⟩,⟨3071,134218752,0,0⟩,⟨8191,268435456,2048,5⟩] (.take 0 (.take 1 (.take 2 (.take 3 (.take 4 (.take 6 (.fork (.alt 5 (.fork (.alt 7 (.take 8 (.take 9 (.take 10 (.fork (.alt 11 (.fork (.alt 12 (.take 13 (.done)) (.nil))) (.nil)))))) (.alt 11 (.fork (.alt 7 (.take 8 (.take 9 (.take 10 (.fork (.alt 12 (.take 13 (.done)) (.nil)))))) (.nil))) (.nil)))) (.alt 11 (.fork (.alt 5 (.fork (.alt 7 (.take 8 (.take 9 (.take 10 (.fork (.alt 12 (.take 13 (.done)) (.nil)))))) (.nil))) (.nil))) (.nil)))))))))) (.run [0,1,2,3,4,6] (.both (.run [5] (.both (.run [7,8,9,10,11,12,13] (.done)) (.run [11,7,8,9,10,12,13] (.done)))) (.run [11,5,7,8,9,10,12,13] (.done)))) ?_;simp only[nD])|refine rg 5 [0,2,6,9,10,11,12,13,14] [0,2,6,9,10,12,13,14,29] [] ?_|refine rg 7 [0,2,6,12,13,14] [0,2,6,12,13,14] [] ?_|refine nc ?_);simp[hF,au,bB,hn,hi',hil,hfind,rY,ij,hnf,hw]
    refine aO.of [0,2,6,12,13,14] [0,1,2] (q-1) (by omega) (by simp[hF]) ?_
    exact⟨i+1,by omega,hf,by simp[au,bB]⟩
   | some e =>
    rw[rN] at hnf hf
    simp only[Option.map_some] at hnf hf
    repeat first|refine n1 ?_|refine n2 ?_|refine n3 ?_|(first|refine rg 3 [0,2,6,12,13,14] [0,2,6,9,12,13,14] [] ?_|(refine dr 4 0 [0,2,6,9,12,13,14] [0,2,6,9,10,11,12,13,14] [] [⟨0,1,524288,5⟩,⟨1,524288,1048576,5⟩,⟨2,1048576,2097152,5⟩,⟨4,2097152,4194304,6⟩,⟨0,512,8388608,6⟩,⟨24,12582912,16777216,4⟩,⟨0,4,33554432,5⟩,⟨96,50331648,67108864,4⟩,⟨128,67108864,262144,5⟩,⟨256,262144,134217728,5⟩,⟨256,262144,268435456,5⟩,⟨0,0,1024,4⟩,⟨3071,134218752,0,0⟩,⟨8191,268435456,2048,5⟩] (.take 0 (.take 1 (.take 2 (.take 3 (.take 4 (.take 6 (.fork (.alt 5 (.fork (.alt 7 (.take 8 (.take 9 (.take 10 (.fork (.alt 11 (.fork (.alt 12 (.take 13 (.done)) (.nil))) (.nil)))))) (.alt 11 (.fork (.alt 7 (.take 8 (.take 9 (.take 10 (.fork (.alt 12 (.take 13 (.done)) (.nil)))))) (.nil))) (.nil)))) (.alt 11 (.fork (.alt 5 (.fork (.alt 7 (.take 8 (.take 9 (.take 10 (.fork (.alt 12 (.take 13 (.done)) (.nil)))))) (.nil))) (.nil))) (.nil)))))))))) (.run [0,1,2,3,4,6] (.both (.run [5] (.both (.run [7,8,9,10,11,12,13] (.done)) (.run [11,7,8,9,10,12,13] (.done)))) (.run [11,5,7,8,9,10,12,13] (.done)))) ?_;simp only[nD])|refine rg 5 [0,2,6,9,10,11,12,13,14] [0,2,6,9,10,12,13,14,29] [] ?_|(refine dr 6 0 [6,9,10] [6,7] [] [⟨0,1024,1073741824,6⟩,⟨0,512,2147483648,5⟩,⟨2,2147483648,4294967296,6⟩,⟨0,512,8589934592,5⟩,⟨8,8589934592,17179869184,6⟩,⟨21,22548578304,34359738368,5⟩,⟨0,1024,68719476736,5⟩,⟨64,68719476736,137438953472,6⟩,⟨128,137438953472,274877906944,5⟩,⟨63,34359738432,0,0⟩,⟨1023,274877906944,128,5⟩] (.take 0 (.take 1 (.take 2 (.take 3 (.take 4 (.take 5 (.take 6 (.fork (.alt 7 (.take 8 (.fork (.alt 9 (.take 10 (.done)) (.nil)))) (.alt 9 (.take 7 (.take 8 (.take 10 (.done)))) (.nil))))))))))) (.run [0,1,2,3,4,5,6] (.both (.run [7,8,9,10] (.done)) (.run [9,7,8,10] (.done)))) ?_;simp only[nD])|refine nc ?_);simp[hF,au,bB,hn,hi',hil,hfind,rY,ij,hnf,hw,aK]
    (try refine nr ?_);(repeat first|refine aF ?_|refine aG ?_);refine ak.o [6,7] [0,1,2] [] ?_;simp[hF,an,aa,ah,au,bB,hf,kM,bR,aK]
 ·obtain rfl:i=m:=by omega
  have qA:aY s (l.drop lo) n=(Fo.none,false):=by rw[hf,List.drop_of_length_le (by omega)];rfl
  repeat first|refine n1 ?_|refine n7 ?_|refine rg 8 [6] [6,7] [] ?_;simp[hF]
  (try refine nr ?_);(repeat first|refine aF ?_|refine aG ?_);refine ak.o [6,7] [0,1,2] [] ?_;simp[hF,an,aa,ah,au,bB,qA,Fo.none,En.none,kM,bR,aK]
theorem Du(o:Bool){s:Mt}(h:aR s)(t:Nat)(ht:t<s.L.length)(n:ByteArray)(act:List Int)(ex:Bool)(ha:act.length≤1000):ai Tryz.prog 34 [au o s] (.cons (.ptr 0 [.d]) (.cons (ag t) (.cons (.val (.string n)) (.cons (.cA 1 (aj act) ex) .nil))))
  fun av X κ=>av=Df (aJ s t n act)∧X=[au o s,kM (aJ s t n act)]∧κ=[]:=by
 have hl:(placesOf s t act).length≤2000000:=by
  have va:(aP s.L t).length≤1000:=h.ok.wf.base.elim fun _ B=>dW B ht (h.ok.wf.ord ht)
  have h1:=uF (aP s.L t) act
  have h2:(aP s.L t).length*(act.length+1)≤1000*1001:=Nat.mul_le_mul va (by omega)
  show (gp (aP s.L t) act).length≤_
  omega
 have QN:=wv o s (placesOf s t act) 0 (placesOf s t act).length (by omega) hl false n
 rw[List.drop_zero] at QN
 have hfo:aJ s t n act=aY s (placesOf s t act) n:=rfl
 rw[hfo]
 refine fb Tryz.func34 Tryz.ntmps34 [.cell 8 43,.tmp 9] fun w0 I0 F0 hF=>?_
 repeat first|refine n1 ?_|(first|refine rg 0 [0,1,2,3] [0,1,2,3,8] [] ?_|refine rg 1 [0,1,2,3,8] [8,9] [] ?_);simp[hF]
 refine(tI o h t ht act ex ha).go [(0,[])] (by simp[hF,au,bB]) ?_;rintro av X κ ⟨rfl,rfl,rfl⟩;simp[hF,au,bB]
 refine(QN).go [(0,[]),(2,[])] (by simp[hF,au,bB,kM]) ?_;rintro av X κ ⟨rfl,rfl,rfl⟩;simp[hF,au,bB,kM]
 repeat refine n1 ?_
 (try refine nr ?_);(repeat first|refine aF ?_|refine aG ?_);refine ak.o [8,9] [0,1] [] ?_;simp[hF,an,aa,ah,au,kM,bR,aK]
theorem pZ(o:Bool){s:Mt}(h:aR s)(t:Nat)(ht:t<s.L.length)(n:ByteArray):ai Tryz.prog 34 [au o s] (.cons (.ptr 0 [.d]) (.cons (ag t) (.cons (.val (.string n)) (.cons (.bE 1) .nil))))
  fun av X κ=>av=Df (aJ s t n [])∧X=[au o s,kM (aJ s t n [])]∧κ=[]:=ai.fy (Du o h t ht n [] true (by simp))
theorem AD{s:Mt}{t:Int}{dn:Bool}{ns:List ByteArray}(h:bK s t dn ns=0):∃k:Nat,t=k∧k<s.L.length:=by
 refine bD ?_
 cases hv:val s.L t with
 | true=>rfl
 | false=>simp[bK,cB,hv] at h
theorem uD{s:Mt}(h:aR s)(t:Int)(n:ByteArray):ai Tryz.prog 22 [au true s] (.cons (.ptr 0 [.d]) (.cons (ag t) (.cons (.val (.string n)) .nil)))
  fun av X κ=>av=ag (cq s t n).2∧X=[au true (cq s t n).1]∧κ=[(0,[.d])]:=by
 have hch:=lI true h t true [n] true (by simp)
 refine fb Tryz.func22 Tryz.ntmps22 [.tmp 6] fun w0 I0 F0 hF=>?_
 repeat first|refine n1 ?_|(first|refine rg 0 [0,1,2] [0,1,2] [] ?_|refine rg 1 [0,1,2] [0,1,2,7] [] ?_);simp[hF]
 refine(hch).go [(0,[]),(1,[])] (by simp[hF,au,aB,b9]) ?_;rintro av X κ ⟨rfl,rfl,rfl⟩;simp[hF,au,aB,b9]
 by_cases h0:bK s t true [n]=0
 ·obtain⟨k,rfl,hk⟩:=AD h0
  have vW:=pZ true h k hk n
  repeat first|refine n1 ?_|refine n2 ?_|(first|refine rg 2 [0,1,2,7] [0,1,2,7,16] [] ?_|refine rg 4 [0,1,2] [0,1,2,9] [] ?_|refine nc ?_);simp[hF,h0]
  refine(vW).go [(0,[])] (by simp[hF,au,kM]) ?_;rintro av X κ ⟨rfl,rfl,rfl⟩;simp[hF,au,kM]
  cases hb:(aJ s k n []).2 with
  | false =>
   have he:cq s k n=(s,3):=by simp[cq,h0,hb]
   repeat first|refine n1 ?_|(first|refine rg 5 [0,1,2,9] [0,1,2,26] [] ?_|refine rg 6 [] [6] [] ?_|refine nc ?_);simp[hF,hb,bR,aK]
   (try refine nr ?_);(repeat first|refine aF ?_|refine aG ?_);refine ak.o [6] [0] [(0,[.d])] ?_;simp[hF,an,aa,ah,au,he]
  | true =>
   have he:cq s k n=(dH s (k,-1) n ⟨-1,0,k,n⟩,0):=by simp[cq,h0,hb]
   repeat first|refine n1 ?_|refine n2 ?_|(first|refine rg 5 [0,1,2,9] [0,1,2,26] [] ?_|refine rg 7 [0,1,2] [] [] ?_|refine nc ?_);simp[hF,hb,bR,aK]
   refine(fM s k (-1) n ⟨-1,0,k,n⟩).go [(0,[])] (by simp[hF,au]) ?_;rintro av X κ ⟨rfl,rfl,rfl⟩;simp[hF,au]
   repeat first|refine n1 ?_|refine rg 8 [] [6] [] ?_;simp[hF]
   (try refine nr ?_);(repeat first|refine aF ?_|refine aG ?_);refine ak.o [6] [0] [(0,[.d])] ?_;simp[hF,an,aa,ah,au,he]
 ·have he:cq s t n=(s,bK s t true [n]):=by simp[cq,h0]
  repeat first|refine n1 ?_|(first|refine rg 2 [0,1,2,7] [0,1,2,7,16] [] ?_|refine rg 3 [7] [6] [] ?_|refine nc ?_);simp[hF,h0]
  (try refine nr ?_);(repeat first|refine aF ?_|refine aG ?_);refine ak.o [6] [0] [(0,[.d])] ?_;simp[hF,an,aa,ah,au,he]
theorem Q8{s:Mt}(h:aR s)(t:Int)(n old:ByteArray):ai Tryz.prog 21 [au true s] (.cons (.ptr 0 [.d]) (.cons (ag t) (.cons (.val (.string n)) (.cons (.val (.string old)) .nil))))
  fun av X κ=>av=ag (aliasOf s t n old).2∧X=[au true (aliasOf s t n old).1]∧κ=[(0,[.d])]:=by
 have hch:=lI true h t true [n,old] true (by simp)
 have h2:(.cons (.val (.string n)) (.cons (.val (.string old)) .nil):D)=strs [n,old]:=rfl
 refine fb Tryz.func21 Tryz.ntmps21 [.tmp 8] fun w0 I0 F0 hF=>?_
 repeat first|refine n1 ?_|(first|refine rg 0 [0,1,2,3] [0,1,2,3] [] ?_|refine rg 1 [0,1,2,3] [0,1,2,3,9] [] ?_);simp[hF]
 refine(hch).go [(0,[]),(1,[])] (by simp[hF,au,aB,h2]) ?_;rintro av X κ ⟨rfl,rfl,rfl⟩;simp[hF,au,aB,h2]
 by_cases h0:bK s t true [n,old]=0
 ·obtain⟨k,rfl,hk⟩:=AD h0
  have vW:=pZ true h k hk old
  repeat first|refine n1 ?_|refine n2 ?_|(first|refine rg 2 [0,1,2,3,9] [0,1,2,3,9,19] [] ?_|refine rg 4 [0,1,2,3] [0,1,2,10,11] [] ?_|refine nc ?_);simp[hF,h0]
  refine(vW).go [(0,[])] (by simp[hF,au,kM]) ?_;rintro av X κ ⟨rfl,rfl,rfl⟩;simp[hF,au,kM]
  cases hb:(aJ s k old []).2 with
  | false =>
   have he:aliasOf s k n old=(s,3):=by simp[aliasOf,h0,hb]
   repeat first|refine n1 ?_|(first|refine rg 5 [0,1,2,10,11] [0,1,2,10,29] [] ?_|refine rg 6 [] [8] [] ?_|refine nc ?_);simp[hF,hb,bR,aK]
   (try refine nr ?_);(repeat first|refine aF ?_|refine aG ?_);refine ak.o [8] [0] [(0,[.d])] ?_;simp[hF,an,aa,ah,au,he]
  | true =>
   have he:aliasOf s k n old=(dH s (k,-1) n (aJ s k old []).1.e,0):=by simp[aliasOf,h0,hb]
   repeat first|refine n1 ?_|refine n2 ?_|(first|refine rg 5 [0,1,2,10,11] [0,1,2,10,29] [] ?_|refine rg 7 [0,1,2,10] [] [] ?_|refine nc ?_);simp[hF,hb,bR,aK]
   refine(fM s k (-1) n (aJ s k old []).1.e).go [(0,[])] (by simp[hF,au]) ?_;rintro av X κ ⟨rfl,rfl,rfl⟩;simp[hF,au]
   repeat first|refine n1 ?_|refine rg 8 [] [8] [] ?_;simp[hF]
   (try refine nr ?_);(repeat first|refine aF ?_|refine aG ?_);refine ak.o [8] [0] [(0,[.d])] ?_;simp[hF,an,aa,ah,au,he]
 ·have he:aliasOf s t n old=(s,bK s t true [n,old]):=by simp[aliasOf,h0]
  repeat first|refine n1 ?_|(first|refine rg 2 [0,1,2,3,9] [0,1,2,3,9,19] [] ?_|refine rg 3 [9] [8] [] ?_|refine nc ?_);simp[hF,h0]
  (try refine nr ?_);(repeat first|refine aF ?_|refine aG ?_);refine ak.o [8] [0] [(0,[.d])] ?_;simp[hF,an,aa,ah,au,he]
theorem zc{s:Mt}(h:aR s)(t:Int)(n:ByteArray):ai Tryz.prog 12 [au true s] (.cons (.ptr 0 [.d]) (.cons (ag t) (.cons (.val (.string n)) .nil)))
  fun av X κ=>av=ag (bf s t n).2∧X=[au true (bf s t n).1]∧κ=[(0,[.d])]:=by
 have hch:=lI true h t true [n] true (by simp)
 refine fbS Tryz.func12 Tryz.ntmps12 [.tmp 6] fun w0 I0 F0 hF=>?_
 repeat first|refine n1 ?_|(first|refine rg 0 [0,1,2] [0,1,2] [] ?_|refine rg 1 [0,1,2] [0,1,2,7] [] ?_);simp[hF]
 refine(hch).go [(0,[]),(1,[])] (by simp[hF,au,aB,b9]) ?_;rintro av X κ ⟨rfl,rfl,rfl⟩;simp[hF,au,aB,b9]
 by_cases h0:bK s t true [n]=0
 ·have hfind:=jy true s.aT t (-1)
  have rY:=o4 true s.aT t (-1)
  cases hg:bF s.aT (t,-1) with
  | none =>
   rw[hg] at hfind
   simp only[Option.map_none] at hfind
   have he:bf s t n=(s,3):=by simp[bf,h0,iO,hg]
   repeat first|refine n1 ?_|refine n2 ?_|(first|refine rg 2 [0,1,2,7] [0,1,2,7,16] [] ?_|refine rg 4 [0,1,2] [0,1,2,9] [] ?_|refine rg 5 [0,1,2,9] [0,1,2,31] [] ?_|refine rg 6 [] [6] [] ?_|refine nc ?_);simp[hF,h0,au,hfind]
   (try refine nr ?_);(repeat first|refine aF ?_|refine aG ?_);refine j6.of ?_;refine ak.o [6] [0] [(0,[.d])] ?_;simp[hF,an,aa,ah,au,he]
  | some tb =>
   rw[hg] at hfind
   simp only[Option.map_some] at hfind
   have hlt:=mo hg
   have ij:=jz true hlt
   have hi:=hlt.1
   have hnf:=sd tb n
   cases rN:bF tb n with
   | none =>
    rw[rN] at hnf
    simp only[Option.map_none] at hnf
    have he:bf s t n=(s,3):=by simp[bf,h0,iO,hg,rN]
    repeat first|refine n1 ?_|refine n2 ?_|(first|refine rg 2 [0,1,2,7] [0,1,2,7,16] [] ?_|refine rg 4 [0,1,2] [0,1,2,9] [] ?_|refine rg 5 [0,1,2,9] [0,1,2,31] [] ?_|refine rg 6 [] [6] [] ?_|refine nc ?_);simp[hF,h0,au,hfind,rY,ij,hnf]
    (try refine nr ?_);(repeat first|refine aF ?_|refine aG ?_);refine j6.of ?_;refine ak.o [6] [0] [(0,[.d])] ?_;simp[hF,an,aa,ah,au,he]
   | some e =>
    rw[rN] at hnf
    simp only[Option.map_some,aK] at hnf
    have he:bf s t n=(iV s (t,-1) n,0):=by simp[bf,h0,iO,hg,rN]
    have dB:s.aT.set (eB s.aT (t,-1)) ((t,-1),mV tb n)=(iV s (t,-1) n).aT:=by
     rw[←An hg]
     simp[iV,hg]
    obtain⟨hX,hX2⟩:=o9 (o:=true) hg (.aH ())
    have hnp:=Wj tb n
    have hmap:=qX true s.aT (eB s.aT (t,-1)) (t,-1) (mV tb n)
    rw[dB] at hmap
    have Rn:=qW (o:=true) hi (t,-1) (.aH ())
    repeat first|refine n1 ?_|refine n2 ?_|(first|refine rg 2 [0,1,2,7] [0,1,2,7,16] [] ?_|refine rg 4 [0,1,2] [0,1,2,9] [] ?_|refine rg 5 [0,1,2,9] [0,1,2,31] [] ?_|refine nc ?_);simp[hF,h0,au,hfind,rY,ij,hnf]
    refine VS.pick [0,1,2] [0] (by simp[hF]) ?_;simp[hF]
    refine eP 0 [.d,.f 1] ?_;simp[hF,St.lift,AV.lift,cJ,cK,dV,isNode]
    refine eP 1 [.i (eB s.aT (t,-1)),.f 1] ?_;simp[hF,St.lift,AV.lift,cJ,cK,dV,isNode,ij,hi]
    repeat first|refine n1 ?_|(first|refine rg 7 [0,1,2] [] [] ?_|refine rg 8 [] [6] [] ?_);simp[hF,tR,hX,hX2,hnp]
    (try refine nr ?_);(repeat first|refine aF ?_|refine aG ?_);refine j6.settle 1 [.i (eB s.aT (t,-1)),.f 1] (.mp 2 []) (by simp) (by simp) (by simp[hF,Tk.tree,hi,fL,hmap,Rn]) (by simp[hF,Tk.tree,hi,fL,hmap,Rn]) ?_;simp[hF,St.settle,Tk.tree,hi,fL,hmap,Rn]
    (try refine nr ?_);(repeat first|refine aF ?_|refine aG ?_);refine j6.settle 0 [.d,.f 1] (.mp 1 []) (by simp) (by simp) (by simp[hF,Tk.tree]) (by simp[hF,Tk.tree]) ?_;simp[hF,St.settle,Tk.tree]
    (try refine nr ?_);(repeat first|refine aF ?_|refine aG ?_);refine j6.of ?_;refine ak.o [6] [0] [(0,[.d])] ?_;simp[hF,an,aa,ah,au,he]
 ·have he:bf s t n=(s,bK s t true [n]):=by simp[bf,h0]
  repeat first|refine n1 ?_|(first|refine rg 2 [0,1,2,7] [0,1,2,7,16] [] ?_|refine rg 3 [7] [6] [] ?_|refine nc ?_);simp[hF,h0]
  (try refine nr ?_);(repeat first|refine aF ?_|refine aG ?_);refine j6.of ?_;refine ak.o [6] [0] [(0,[.d])] ?_;simp[hF,an,aa,ah,au,he]
theorem Wa{s:Mt}(h:aR s)(t:Int)(n:ByteArray)(v:Int):ai Tryz.prog 23 [au true s] (.cons (.ptr 0 [.d]) (.cons (ag t) (.cons (.val (.string n)) (.cons (ag v) .nil))))
  fun av X κ=>av=ag (eD s t n v).2∧X=[au true (eD s t n v).1]∧κ=[(0,[.d])]:=by
 refine fb Tryz.func23 Tryz.ntmps23 [.tmp 8] fun w0 I0 F0 hF=>?_
 obtain⟨dn,j7⟩:∃f,f=fZ v:=⟨_,rfl⟩
 have hch:=lI true h t dn [n] true (by simp)
 have hd:eD s t n v=if bK s t dn [n]≠0 then (s,bK s t dn [n]) else if (aJ s t n []).2=false then (s,3) else (dH s (t,-1) n { iW s t n with Ch:=v },0):=by rw[j7];rfl
 rw[hd]
 clear hd
 by_cases h1:0≤v
 ·have hv:decide (v≤2)=dn:=by simp[j7,fZ,h1]
  repeat first|refine n1 ?_|(first|refine rg 0 [0,1,2,3] [0,1,2,3] [] ?_|refine rg 1 [0,1,2,3] [0,1,2,3,9] [(4,19)] ?_);simp[hF,h1,hv]
  clear j7 hv
  refine(hch).go [(0,[]),(1,[])] (by simp[hF,au,aB,b9]) ?_;rintro av X κ ⟨rfl,rfl,rfl⟩;simp[hF,au,aB,b9]
  by_cases h0:bK s t dn [n]=0
  ·obtain⟨k,rfl,hk⟩:=AD h0
   have vW:=pZ true h k hk n
   repeat first|refine n1 ?_|refine n2 ?_|(first|refine rg 2 [0,1,2,3,9] [0,1,2,3,9,27] [] ?_|refine rg 4 [0,1,2,3] [0,1,2,3,10,11] [] ?_|refine nc ?_);simp[hF,h0]
   refine(vW).go [(0,[])] (by simp[hF,au,kM]) ?_;rintro av X κ ⟨rfl,rfl,rfl⟩;simp[hF,au,kM]
   have hsh:iW s k n=match iO s (k,-1) n with
    | some own=>if own.body≠-1 then own else (aJ s k n []).1.e
    | none=>(aJ s k n []).1.e:=rfl
   generalize aJ s k n []=fo at *
   obtain⟨⟨fe,fth,fmd⟩,fb⟩:=fo
   cases fb with
   | false =>
    repeat first|refine n1 ?_|(first|refine rg 5 [0,1,2,3,10,11] [0,1,2,3,10,37] [] ?_|refine rg 6 [] [8] [] ?_|refine nc ?_);simp[hF,bR,aK]
    (try refine nr ?_);(repeat first|refine aF ?_|refine aG ?_);refine ak.o [8] [0] [(0,[.d])] ?_;simp[hF,an,aa,ah,au,h0]
   | true =>
    repeat first|refine n1 ?_|refine n2 ?_|(first|refine rg 5 [0,1,2,3,10,11] [0,1,2,3,10,37] [] ?_|refine rg 7 [0,1,2,3,10] [0,1,2,3,12] [] ?_|refine nc ?_);simp[hF,bR,aK]
    have hfind:=jy true s.aT k (-1)
    have rY:=o4 true s.aT k (-1)
    have fin:∀e0:En,iW s k n=e0→(⟨e0.body,v,e0.home,e0.known⟩:En)={ iW s k n with Ch:=v }:=fun e0 h=>by rw[h]
    cases hg:bF s.aT ((k:Int),-1) with
    | none =>
     rw[hg] at hfind
     simp only[Option.map_none] at hfind
     have he:=fin fe (by simp[hsh,iO,hg])
     repeat first|refine n1 ?_|refine n2 ?_|(first|refine rg 8 [0,1,2,3,12] [0,1,2,3,12,13,14] [] ?_|refine rg 9 [0,1,2,3,12,13,14] [0,1,2,3,12,13,57] [(1,53)] ?_|refine rg 11 [0,1,2,3,12] [0,1,2,12] [] ?_|refine rg 12 [0,1,2,12] [] [] ?_|refine nc ?_);simp[hF,hfind,au]
     refine(fM s k (-1) n ⟨fe.body,v,fe.home,fe.known⟩).go [(0,[])] (by simp[hF,au]) ?_;rintro av X κ ⟨rfl,rfl,rfl⟩;simp[hF,au]
     repeat first|refine n1 ?_|refine rg 13 [] [8] [] ?_;simp[hF]
     (try refine nr ?_);(repeat first|refine aF ?_|refine aG ?_);refine ak.o [8] [0] [(0,[.d])] ?_;simp[hF,an,aa,ah,au,h0,he]
    | some tb =>
     rw[hg] at hfind
     simp only[Option.map_some] at hfind
     have hlt:=mo hg
     have ij:=jz true hlt
     have hi:=hlt.1
     have hnf:=sd tb n
     cases rN:bF tb n with
     | none =>
      rw[rN] at hnf
      simp only[Option.map_none] at hnf
      have he:=fin fe (by simp[hsh,iO,hg,rN])
      repeat first|refine n1 ?_|refine n2 ?_|(first|refine rg 8 [0,1,2,3,12] [0,1,2,3,12,13,14] [] ?_|refine rg 9 [0,1,2,3,12,13,14] [0,1,2,3,12,13,57] [(1,53)] ?_|refine rg 11 [0,1,2,3,12] [0,1,2,12] [] ?_|refine rg 12 [0,1,2,12] [] [] ?_|refine nc ?_);simp[hF,hfind,au,rY,ij,hnf]
      refine(fM s k (-1) n ⟨fe.body,v,fe.home,fe.known⟩).go [(0,[])] (by simp[hF,au]) ?_;rintro av X κ ⟨rfl,rfl,rfl⟩;simp[hF,au]
      repeat first|refine n1 ?_|refine rg 13 [] [8] [] ?_;simp[hF]
      (try refine nr ?_);(repeat first|refine aF ?_|refine aG ?_);refine ak.o [8] [0] [(0,[.d])] ?_;simp[hF,an,aa,ah,au,h0,he]
     | some e =>
      rw[rN] at hnf
      simp only[Option.map_some,aK] at hnf
      by_cases hb:e.body=-1
      ·have he:=fin fe (by simp[hsh,iO,hg,rN,hb])
       repeat first|refine n1 ?_|refine n2 ?_|(first|refine rg 8 [0,1,2,3,12] [0,1,2,3,12,13,14] [] ?_|refine rg 9 [0,1,2,3,12,13,14] [0,1,2,3,12,13,57] [(1,53)] ?_|refine rg 11 [0,1,2,3,12] [0,1,2,12] [] ?_|refine rg 12 [0,1,2,12] [] [] ?_|refine nc ?_);simp[hF,hfind,au,rY,ij,hnf,hb]
       refine(fM s k (-1) n ⟨fe.body,v,fe.home,fe.known⟩).go [(0,[])] (by simp[hF,au]) ?_;rintro av X κ ⟨rfl,rfl,rfl⟩;simp[hF,au]
       repeat first|refine n1 ?_|refine rg 13 [] [8] [] ?_;simp[hF]
       (try refine nr ?_);(repeat first|refine aF ?_|refine aG ?_);refine ak.o [8] [0] [(0,[.d])] ?_;simp[hF,an,aa,ah,au,h0,he]
      ·have he:=fin e (by simp[hsh,iO,hg,rN,hb])
       repeat first|refine n1 ?_|(first|refine rg 8 [0,1,2,3,12] [0,1,2,3,12,13,14] [] ?_|refine rg 9 [0,1,2,3,12,13,14] [0,1,2,3,12,13,57] [(1,53)] ?_|refine rg 10 [0,1,2,3,12,13] [0,1,2,3,12] [] ?_|refine rg 11 [0,1,2,3,12] [0,1,2,12] [] ?_|refine rg 12 [0,1,2,12] [] [] ?_|refine nc ?_);simp[hF,hfind,au,rY,ij,hnf,hb]
       refine(fM s k (-1) n ⟨e.body,v,e.home,e.known⟩).go [(0,[])] (by simp[hF,au]) ?_;rintro av X κ ⟨rfl,rfl,rfl⟩;simp[hF,au]
       repeat first|refine n1 ?_|refine rg 13 [] [8] [] ?_;simp[hF]
       (try refine nr ?_);(repeat first|refine aF ?_|refine aG ?_);refine ak.o [8] [0] [(0,[.d])] ?_;simp[hF,an,aa,ah,au,h0,he]
  ·repeat first|refine n1 ?_|(first|refine rg 2 [0,1,2,3,9] [0,1,2,3,9,27] [] ?_|refine rg 3 [9] [8] [] ?_|refine nc ?_);simp[hF,h0]
   (try refine nr ?_);(repeat first|refine aF ?_|refine aG ?_);refine ak.o [8] [0] [(0,[.d])] ?_;simp[hF,an,aa,ah,au,h0]
 ·have hv:dn=false:=by simp[j7,fZ,h1]
  subst hv
  have h0:¬bK s t false [n]=0:=by simp[bK,cB]
  repeat first|refine n1 ?_|(first|refine rg 0 [0,1,2,3] [0,1,2,3] [] ?_|refine rg 1 [0,1,2,3] [0,1,2,3,9] [(4,19)] ?_);simp[hF,h1]
  refine(hch).go [(0,[]),(1,[])] (by simp[hF,au,aB,b9]) ?_;rintro av X κ ⟨rfl,rfl,rfl⟩;simp[hF,au,aB,b9]
  repeat first|refine n1 ?_|(first|refine rg 2 [0,1,2,3,9] [0,1,2,3,9,27] [] ?_|refine rg 3 [9] [8] [] ?_|refine nc ?_);simp[hF,h0]
  (try refine nr ?_);(repeat first|refine aF ?_|refine aG ?_);refine ak.o [8] [0] [(0,[.d])] ?_;simp[hF,an,aa,ah,au,h0]
end Go.Proofs.YtbhigdljojlhnaaGreat

namespace Go.Proofs.YtbhigdljojlhnaaGreat
set_option linter.all false
open Go.Vc Go.Proofs
theorem adO{op:BinOp}{a b c d:Int}{K:AV→Prop}(h:jC op (decide (a=b)&&decide (c=d)) K) :
  jv Tryz.prog 79 op (.cons (.val (.int .i64 a)) (.cons (.val (.int .i64 c)) .nil)) (.cons (.val (.int .i64 b)) (.cons (.val (.int .i64 d)) .nil)) K:=by
 refine⟨_,⟨Tryz.eqGuardType79,fun h I F xs ys w h1 h2=>?_⟩,h⟩
 obtain⟨_,_,rfl,⟨rfl,_⟩,_,_,rfl,⟨rfl,_⟩,rfl⟩:=h1
 obtain⟨_,_,rfl,⟨rfl,_⟩,_,_,rfl,⟨rfl,_⟩,rfl⟩:=h2
 exact qH Tryz.underlying79 (by kernel_rfl) ⟨by decide,rfl,by kernel_rfl⟩ ⟨by decide,rfl,by kernel_rfl⟩ a b c d
theorem jU{s:Mt}{n:ByteArray}:∀{l:List Key} {f:Fo},aY s l n=(f,true)→∃i,∃hi:i<l.length,l[i]=(f.th,f.md)∧iO s (f.th,f.md) n=some f.e∧f.e.body≠-1∧∀j,(hj:j<i)→iO s (l[j]'(by omega)) n=none
 | [],f,h=>by cases h
 | k::l,f,h=>by
  unfold aY at h
  split at h
  ·rename_i e he
   simp only[Prod.mk.injEq,decide_eq_true_eq] at h
   obtain⟨rfl,hb⟩:=h
   exact⟨0,by simp,rfl,he,hb,fun j hj=>by omega⟩
  ·rename_i he
   obtain⟨i,hi,h1,h2,h3,h4⟩:=jU h
   refine⟨i+1,by simp only[List.length_cons];omega,by simpa using h1,h2,h3,fun j hj=>?_⟩
   cases j with
   | zero=>simpa using he
   | succ j=>simpa using h4 j (by omega)
theorem jA(s:Mt)(t:Int):placesOf s t []=(aP s.L t).map fun x=>(x,-1):=by
 show (aP s.L t).flatMap (fun x=>gV x [])=_
 generalize aP s.L t=l
 induction l with
 | nil=>rfl
 | cons x l ih=>rw[List.flatMap_cons,ih];rfl
def Gp (od:List Int) (f:Fo):Nat:=2*od.findIdx (fun x=>decide (x=f.th))+if f.md<0 then 1 else 0
theorem GK{od:List Int}(hn:od.Nodup){j:Nat}(hj:j<od.length):od.findIdx (fun x=>decide (x=od[j]))=j:=by
 rw[List.findIdx_eq hj]
 refine⟨by simp,fun i hi=>?_⟩
 simp only[decide_eq_false_iff_not]
 intro h
 exact List.pairwise_iff_getElem.1 hn i j (by omega) hj hi h
theorem LJ(od:List Int)(th:Int):(od.map fun x=>((x,-1):Key)).findIdx (xU th (-1))=od.findIdx fun x=>decide (x=th):=by
 induction od with
 | nil=>rfl
 | cons x l ih =>
  by_cases h:x=th
  ·simp[List.findIdx_cons,h,xU]
  ·simp[List.findIdx_cons,h,ih,xU]
theorem LK(od:List Int)(th:Int):(od.map fun x=>((x,-1):Key)).any (xU th (-1))=decide (th∈od):=by
 induction od with
 | nil=>rfl
 | cons x l ih =>
  rw[List.map_cons,List.any_cons,ih]
  by_cases h:x=th
  ·simp[h,xU]
  ·simp[h,Ne.symm h,xU]
theorem nK(s:Mt)(t:Int)(n:ByteArray)(th md:Int):bZ s t n th md =
  if th∈aP s.L t then aY s (((aP s.L t).drop ((aP s.L t).findIdx (fun x=>decide (x=th))+if md<0 then 1 else 0)).map fun x=>(x,-1)) n else (Fo.none,false):=by
 unfold bZ
 rw[jA,LK,LJ,List.map_drop]
 by_cases h:th∈aP s.L t<;>simp[h]
theorem y7{s:Mt}{t:Int}{n:ByteArray}{f g:Fo}(hn:(aP s.L t).Nodup)(h:bZ s t n f.th f.md=(g,true)):g.th∈aP s.L t∧g.md=-1∧Gp (aP s.L t) f<Gp (aP s.L t) g∧g.e.body≠-1:=by
 rw[nK] at h
 split at h
 ·generalize aP s.L t=od at *
  obtain⟨i,hi,h1,h2,h3,_⟩:=jU h
  rw[List.length_map,List.length_drop] at hi
  have hlt:od.findIdx (fun x=>decide (x=f.th))+(if f.md<0 then 1 else 0)+i<od.length:=by omega
  rw[List.getElem_map,List.getElem_drop] at h1
  simp only[Prod.mk.injEq] at h1
  obtain⟨h1,hm⟩:=h1
  have hp:=GK hn hlt
  rw[h1] at hp
  refine⟨by rw[←h1];exact List.getElem_mem _,hm.symm,?_,h3⟩
  unfold Gp
  rw[hp,←hm]
  simp only[show ((-1:Int)<0)=True by simp,if_true]
  split<;>omega
 ·cases h
theorem Ak{od:List Int}{f:Fo}(h:f.th∈od):Gp od f<2*od.length:=by
 have:od.findIdx (fun x=>decide (x=f.th))<od.length:=List.findIdx_lt_length_of_exists ⟨f.th,h,by simp⟩
 unfold Gp
 split<;>omega
theorem C8{s:Mt}{t:Int}{n:ByteArray}{act:List Int}{f:Fo}(h:aJ s t n act=(f,true)):f.th∈aP s.L t∧f.e.body≠-1:=by
 obtain⟨i,hi,h1,_,h3,_⟩:=jU (show aY s (placesOf s t act) n=(f,true) from h)
 refine⟨?_,h3⟩
 have hm:=List.getElem_mem hi
 rw[h1] at hm
 unfold placesOf at hm
 obtain⟨x,hx,hm⟩:=List.mem_flatMap.1 hm
 rcases List.mem_append.1 hm with hm|hm
 ·obtain⟨m,_,e⟩:=List.mem_map.1 hm
  cases e;exact hx
 ·simp only[List.mem_singleton,Prod.mk.injEq] at hm
  rw[hm.1];exact hx
noncomputable def gl (s:Mt) (t:Int) (n:ByteArray):Nat→Fo→List Fo
 | 0,_=>[]
 | k+1,f=>f::if (bZ s t n f.th f.md).2=true then gl s t n k (bZ s t n f.th f.md).1 else []
noncomputable def bp (s:Mt) (t:Int) (n:ByteArray) (act:List Int):List Fo×Int :=
 if (aX s t n act).2≠0 then ([],(aX s t n act).2) else (gl s t n (2*(aP s.L t).length+2) (aX s t n act).1,0)
end Go.Proofs.YtbhigdljojlhnaaGreat

namespace Go.Proofs.YtbhigdljojlhnaaGreat
set_option linter.all false
open Go.Vc Go.Proofs
set_option maxRecDepth 100000
set_option maxHeartbeats 4000000
attribute [local irreducible] bx jv
def rO:D:=.box true () (.aH ())
@[simp high] theorem adU:aW rO=true:=by rw[rO,aW]
theorem Wq(o:Bool){s:Mt}(h:aR s)(x:Int):eR Tryz.prog 78 [au o s,rO] [(1,[.d],.ptr 0 [.d])] (.cons (ag x) (.cons (.ptr 1 [.d]) .nil)) fun av X κ=>av=aN (!iM s x)∧X=[au o s,rO]∧κ=[]:=by
 refine fbP Tryz.func78 Tryz.ntmps78 [.tmp 3] fun w0 I0 F0 hF=>?_
 repeat first|refine n1 ?_|(first|refine rg 0 [0,1] [0,1] [] ?_|refine rg 1 [0,1] [3] [] ?_);simp[hF,rO,au]
 refine(Az o h x).go [(0,[])] (by simp[hF,rO,au]) ?_;rintro av X κ ⟨rfl,rfl,rfl⟩;simp[hF,rO,au]
 repeat refine n1 ?_
 (try refine nr ?_);(repeat first|refine aF ?_|refine aG ?_);refine ak.o [3] [0,1] [] ?_;simp[hF,an,aa,ah,rO,au]
theorem Dv(o:Bool){s:Mt}(hs:aR s)(ex:Bool)(ls:List Int)(hl:ls.length≤100000000) :
  eR Tryz.prog 116 [au o s,rO] [(1,[.d],.ptr 0 [.d])] (.cons (.cA 1 (aj ls) ex) (.cons (.fn 78 (.cons (.ptr 1 [.d]) .nil)) .nil))
  fun av X κ=>av=ag (lZ (fun m=>!iM s m) ls)∧X=[au o s,rO]∧κ=[]:=by
 refine fbP Tryz.func116 Tryz.ntmps116 [.tmp 4] fun w0 I0 F0 hF=>?_
 repeat first|refine n1 ?_|refine n3 ?_|(first|refine rg 0 [0,1] [0,1] [] ?_|refine rg 1 [0,1] [0,1,7,8] [] ?_);simp[hF,rO,au]
 refine VS.rounds (fun m st=>∃(i:Nat),i+m=ls.length∧(∀j,(h:j<ls.length)→j<i→(!iM s ls[j])=false)∧st=⟨[(0,.cA 1 (aj ls) ex),(1,.fn 78 (.cons (.ptr 1 [.d]) .nil)),(7,ag ls.length),(8,ag i)],[au o s,rO],[],[(1,[.d],.ptr 0 [.d])]⟩) ⟨ls.length,0,by omega,by omega,by simp[rO,au]⟩ ?_
 rintro m st ⟨i,hi,hall,rfl⟩
 repeat first|refine n1 ?_|(first|refine rg 2 [0,1,7,8] [0,1,7,8,9] [] ?_|refine nc ?_);simp[hF,rO,au]
 refine⟨fun hlt=>?_,fun hge=>?_⟩
 ·have hi':i<ls.length:=by omega
  have hn:=bP hi'
  repeat first|refine n1 ?_|refine n2 ?_|refine n3 ?_|(first|refine rg 3 [0,1,7,8] [0,1,5,7,8] [] ?_|refine rg 4 [0,1,5,7,8] [0,1,5,7,8,16] [] ?_);simp[hF,hn,hi',rO,au]
  refine(Wq o hs ls[i]).goP [(0,[]),(1,[])] (by simp[hF,uB,rO,au]) ?_;rintro av X κ ⟨rfl,rfl,rfl⟩;simp[hF,rO,au]
  cases hp:iM s ls[i] with
  | false =>
   have hr:lZ (fun m=>!iM s m) ls=i:=hU hi' (fun j h=>hall j (by omega) h) (by simp[hp])
   repeat first|refine n1 ?_|(first|refine rg 5 [5] [4] [] ?_|refine nc ?_);simp[hF,hp]
   (try refine nr ?_);(repeat first|refine aF ?_|refine aG ?_);refine ak.o [4] [0,1] [] ?_;simp[hF,an,aa,ah,hr,rO,au]
  | true =>
   repeat first|refine n2 ?_|refine n4 ?_|refine n5 ?_|refine n6 ?_|(first|refine rg 6 [0,1,7,8] [0,1,7,8] [] ?_|refine nc ?_);simp[hF,hp]
   refine aO.of [0,1,7,8] [0,1] (m-1) (by omega) (by simp[hF]) ?_
   refine⟨i+1,by omega,?_,?_⟩
   ·intro j hj hji
    rcases Nat.lt_or_ge j i with h'|h'
    ·exact hall j hj h'
    ·obtain rfl:j=i:=by omega
     simp[hp]
   ·simp[rO,au]
    exact IntWalk.i64_in _ (by omega)
 ·have hr:lZ (fun m=>!iM s m) ls=-1:=fV (fun j h=>hall j h (by omega))
  repeat first|refine n1 ?_|refine n7 ?_|refine rg 7 [] [4] [] ?_;simp[hF]
  (try refine nr ?_);(repeat first|refine aF ?_|refine aG ?_);refine ak.o [4] [0,1] [] ?_;simp[hF,an,aa,ah,hr,rO,au]
theorem wz(o:Bool){s:Mt}(hs:aR s)(ex:Bool)(ls:List Int)(hl:ls.length≤100000000) :
  eR Tryz.prog 77 [au o s,rO] [(1,[.d],.ptr 0 [.d])] (.cons (.cA 1 (aj ls) ex) (.cons (.fn 78 (.cons (.ptr 1 [.d]) .nil)) .nil))
  fun av X κ=>av=aN (!qU s ls)∧X=[au o s,rO]∧κ=[]:=by
 refine fbP Tryz.func77 Tryz.ntmps77 [.tmp 4] fun w0 I0 F0 hF=>?_
 repeat first|refine n1 ?_|(first|refine rg 0 [0,1] [0,1] [] ?_|refine rg 1 [0,1] [4] [] ?_);simp[hF,rO,au]
 refine(Dv o hs ex ls hl).goP [(0,[]),(1,[])] (by simp[hF,uB,rO,au]) ?_;rintro av X κ ⟨rfl,rfl,rfl⟩;simp[hF,rO,au]
 repeat refine n1 ?_
 have h:decide ((0:Int)≤lZ (fun m=>!iM s m) ls) = !qU s ls:=by
  simp only[qN,Bool.decide_eq_true,qU]
  clear hl hF
  induction ls with
  | nil=>rfl
  | cons a l ih=>simp only[List.any_cons,List.all_cons,ih,Bool.not_and]
 (try refine nr ?_);(repeat first|refine aF ?_|refine aG ?_);refine ak.o [4] [0,1] [] ?_;simp[hF,an,aa,ah,h,rO,au]
theorem GM(o:Bool){s:Mt}(h:aR s)(ls:List Int)(ex:Bool)(hl:ls.length≤100000000):ai Tryz.prog 32 [au o s] (.cons (.ptr 0 [.d]) (.cons (.cA 1 (aj ls) ex) .nil))
  fun av X κ=>av=aN (qU s ls)∧X=[au o s]∧κ=[]:=by
 refine fb Tryz.func32 Tryz.ntmps32 [.tmp 4] fun w0 I0 F0 hF=>?_
 repeat first|refine n1 ?_|(first|refine rg 0 [0,1] [1,2] [] ?_|refine rg 1 [1,2] [4] [(3,8)] ?_);simp[hF,au]
 refine(nP o s).go [(0,[])] (by simp[hF,au,rO]) ?_;rintro av X κ ⟨rfl,rfl,rfl⟩;simp[hF,au,rO]
 refine(wz o h ex ls hl).goP [(0,[]),(1,[])] (by simp[hF,uB,rO,au]) ?_;rintro av X κ ⟨rfl,rfl,rfl⟩;simp[hF,rO,au]
 repeat refine n1 ?_
 (try refine nr ?_);(repeat first|refine aF ?_|refine aG ?_);refine ak.o [4] [0] [] ?_;simp[hF,an,aa,ah,au]
theorem Wr(f:Fo)(b:Bool):ai Tryz.prog 33 [] (.cons (o6 f) (.cons (aN b) .nil)) fun av X κ=>av=.cT (.cons (o6 (toldOf (f,b)).1) (.cons (ag (toldOf (f,b)).2) .nil))∧X=[.box true () (bR f),.box true () (bR (toldOf (f,b)).1)]∧κ=[]:=by
 refine fb Tryz.func33 Tryz.ntmps33 [.cell 4 43,.tmp 5] fun w0 I0 F0 hF=>?_
 cases b with
 | true =>
  repeat first|refine n1 ?_|refine n2 ?_|(first|refine rg 0 [0,1] [1,2,4] [] ?_|refine rg 1 [1,2,4] [2,4,7] [] ?_|refine rg 3 [2,4] [4,5] [] ?_|refine nc ?_);simp[hF]
  (try refine nr ?_);(repeat first|refine aF ?_|refine aG ?_);refine ak.o [4,5] [0,1] [] ?_;simp[hF,an,aa,ah,toldOf,bR,aK]
 | false =>
  repeat first|refine n1 ?_|(first|refine rg 0 [0,1] [1,2,4] [] ?_|refine rg 1 [1,2,4] [2,4,7] [] ?_|refine rg 2 [4] [4,5] [] ?_|refine nc ?_);simp[hF]
  (try refine nr ?_);(repeat first|refine aF ?_|refine aG ?_);refine ak.o [4,5] [0,1] [] ?_;simp[hF,an,aa,ah,toldOf,bR,aK,Fo.none,En.none]
theorem AE(o:Bool){s:Mt}(h:aR s)(t:Int)(n:ByteArray)(act:List Int)(ex:Bool)(ha:act.length≤1000):ai Tryz.prog 13 [au o s] (.cons (.ptr 0 [.d]) (.cons (ag t) (.cons (.val (.string n)) (.cons (.cA 1 (aj act) ex) .nil))))
  fun av X κ=>av=.cT (.cons (o6 (aX s t n act).1) (.cons (ag (aX s t n act).2) .nil))∧X=[au o s,.box true () (bR (aX s t n act).1)]∧κ=[]:=by
 have hac:=wu o h t (qU s act) [n] true (by simp)
 refine fb Tryz.func13 Tryz.ntmps13 [.cell 8 43,.tmp 9] fun w0 I0 F0 hF=>?_
 repeat first|refine n1 ?_|(first|refine rg 0 [0,1,2,3] [0,1,2,3,8] [] ?_|refine rg 1 [0,1,2,3,8] [0,1,2,3,8,10] [] ?_);simp[hF]
 refine(GM o h act ex (by omega)).go [(0,[])] (by simp[hF,au]) ?_;rintro av X κ ⟨rfl,rfl,rfl⟩;simp[hF,au]
 refine(hac).go [(0,[]),(2,[])] (by simp[hF,au,aB,b9 n]) ?_;rintro av X κ ⟨rfl,rfl,rfl⟩;simp[hF,au,aB,b9 n]
 by_cases h0:cB s t (qU s act) [n]=0
 ·obtain⟨k,rfl,hk⟩:∃k:Nat,t=k∧k<s.L.length:=by
   refine bD ?_
   cases hv:val s.L t with
   | true=>rfl
   | false=>simp[cB,hv] at h0
  have he:aX s k n act=toldOf (aJ s k n act):=by simp[aX,h0]
  rw[he]
  repeat first|refine n1 ?_|refine n2 ?_|(first|refine rg 2 [0,1,2,3,8,10] [0,1,2,3,8,10,20] [] ?_|refine rg 4 [0,1,2,3,8] [8,9] [] ?_|refine nc ?_);simp[hF,h0]
  refine(Du o h k hk n act ex ha).go [(0,[])] (by simp[hF,au,kM]) ?_;rintro av X κ ⟨rfl,rfl,rfl⟩;simp[hF,au,kM]
  refine(Wr (aJ s k n act).1 (aJ s k n act).2).go [] (by simp[hF,bR,aK]) ?_;rintro av X κ ⟨rfl,rfl,rfl⟩;simp[hF,bR,aK]
  repeat refine n1 ?_
  (try refine nr ?_);(repeat first|refine aF ?_|refine aG ?_);refine ak.o [8,9] [0,1] [] ?_;simp[hF,an,aa,ah,au,bR,aK]
 ·have he:aX s t n act=(Fo.none,cB s t (qU s act) [n]):=by simp[aX,h0]
  rw[he]
  repeat first|refine n1 ?_|(first|refine rg 2 [0,1,2,3,8,10] [0,1,2,3,8,10,20] [] ?_|refine rg 3 [8,10] [8,9] [] ?_|refine nc ?_);simp[hF,h0]
  (try refine nr ?_);(repeat first|refine aF ?_|refine aG ?_);refine ak.o [8,9] [0,1] [] ?_;simp[hF,an,aa,ah,au,bR,aK,Fo.none,En.none]
theorem Dw(ex:Bool)(ls:List Key)(a b:Int)(hl:ls.length≤100000000) :
  ai Tryz.prog 113 [bB ls] (.cons (.sub 0 [] 0 ls.length ex) (.cons (YM a b) .nil))
  fun av X κ=>av=ag (lZ (xU a b) ls)∧X=[bB ls]∧κ=[]:=by
 refine fb Tryz.func113 Tryz.ntmps113 [.tmp 4] fun w0 I0 F0 hF=>?_
 repeat first|refine n1 ?_|refine n3 ?_|(first|refine rg 0 [0,1] [0,3] [] ?_|refine rg 1 [0,3] [0,3,7,8] [] ?_);simp[hF,bB]
 refine VS.pick [0,3,7,8] [0,1] (by simp[hF]) ?_;simp[hF]
 refine VS.rounds (fun m st=>∃(i:Nat),i+m=ls.length∧(∀j,(h:j<ls.length)→j<i→xU a b ls[j]=false)∧st=⟨[(0,.sub 0 [] 0 ls.length ex),(3,.ptr 1 [.d]),(7,ag ls.length),(8,ag i)],[bB ls,.box true () (.agg (.cons (.val (.int .i64 a)) (.cons (.val (.int .i64 b)) .nil)))],[],[]⟩) ⟨ls.length,0,by omega,by omega,by simp[bB]⟩ ?_
 rintro m st ⟨i,hi,hall,rfl⟩
 repeat first|refine n1 ?_|(first|refine rg 2 [0,3,7,8] [0,3,7,8,9] [] ?_|refine nc ?_);simp[hF,bB]
 refine⟨fun hlt=>?_,fun hge=>?_⟩
 ·have hi':i<ls.length:=by omega
  have hn:=Af hi'
  repeat first|refine n1 ?_|refine n2 ?_|refine n3 ?_|(first|refine rg 3 [0,3,7,8] [0,3,5,7,8] [] ?_|(refine dr 4 0 [0,3,5,7,8] [0,3,5,7,8,16] [] [⟨0,8,2048,6⟩,⟨0,1,4096,5⟩,⟨0,32,8192,5⟩,⟨6,12288,16384,5⟩,⟨8,16384,32768,6⟩,⟨17,34816,65536,5⟩] (.take 0 (.take 1 (.take 2 (.take 3 (.take 4 (.take 5 (.done))))))) (.run [0,1,2,3,4,5] (.done)) ?_;simp only[nD]));simp[hF,bB,hn,hi']
  refine adO ?_
  have hd:(decide (a=ls[i].1)&&decide (b=ls[i].2))=xU a b ls[i]:=by
   simp only[xU,eq_comm]
  rw[hd]
  simp[hF,bB,jC,eE]
  cases hp:xU a b ls[i] with
  | true =>
   have hr:lZ (xU a b) ls=i:=hU hi' (fun j h=>hall j (by omega) h) hp
   repeat first|refine n1 ?_|(first|refine rg 5 [5] [4] [] ?_|refine nc ?_);simp[hF,hp]
   (try refine nr ?_);(repeat first|refine aF ?_|refine aG ?_);refine ak.o [4] [0] [] ?_;simp[hF,an,aa,ah,hr,bB]
  | false =>
   repeat first|refine n2 ?_|refine n4 ?_|refine n5 ?_|refine n6 ?_|(first|refine rg 6 [0,3,7,8] [0,3,7,8] [] ?_|refine nc ?_);simp[hF,hp]
   refine aO.of [0,3,7,8] [0,1] (m-1) (by omega) (by simp[hF]) ?_
   refine⟨i+1,by omega,?_,?_⟩
   ·intro j hj hji
    rcases Nat.lt_or_ge j i with h'|h'
    ·exact hall j hj h'
    ·obtain rfl:j=i:=by omega
     exact hp
   ·simp[bB]
    exact IntWalk.i64_in _ (by omega)
 ·have hr:lZ (xU a b) ls=-1:=fV (fun j h=>hall j h (by omega))
  repeat first|refine n1 ?_|refine n7 ?_|refine rg 7 [] [4] [] ?_;simp[hF]
  (try refine nr ?_);(repeat first|refine aF ?_|refine aG ?_);refine ak.o [4] [0] [] ?_;simp[hF,an,aa,ah,hr,bB]
theorem bX(o:Bool)(s:Mt):ai Tryz.prog 18 [au o s] (.cons (.ptr 0 [.d]) .nil) fun av X κ=>av=.ptr 0 [.d,.f 0,.d]∧X=[au o s]∧κ=[]:=by
 refine fb Tryz.func18 Tryz.ntmps18 [.tmp 2] fun w0 I0 F0 hF=>?_
 repeat first|refine n1 ?_|refine n2 ?_|(first|refine rg 0 [0] [0] [] ?_|refine rg 1 [0] [0,4] [] ?_|refine rg 3 [0] [2] [] ?_|refine nc ?_);simp[hF,au,dL]
 (try refine nr ?_);(repeat first|refine aF ?_|refine aG ?_);refine ak.o [2] [0] [] ?_;simp[hF,an,aa,ah,au,dL]
theorem Rq(o:Bool){s:Mt}(h:aR s)(t:Nat)(ht:t<s.L.length)(n:ByteArray)(f:Fo):ai Tryz.prog 68 [au o s] (.cons (.ptr 0 [.d]) (.cons (ag t) (.cons (.val (.string n)) (.cons (o6 f) .nil))))
  fun av X κ=>av=Df (bZ s t n f.th f.md)∧X=[au o s,.box true () (bR (bZ s t n f.th f.md).1)]∧κ=[]:=by
 have oE:ai Tryz.prog 81 [au o s] (.cons (.ptr 0 [.d]) (.cons (ag t) (.cons (.bE 1) .nil))) fun av X κ=>av=.sub 1 [] 0 (placesOf s t []).length false∧X=[au o s,bB (placesOf s t [])]∧κ=[]:=ai.fy (tI o h t ht [] true (by simp))
 have va:(aP s.L t).length≤1000:=h.ok.wf.base.elim fun _ B=>dW B ht (h.ok.wf.ord ht)
 have hlen:(placesOf s t []).length≤1000:=by rw[jA,List.length_map];exact va
 have zY:bZ s t n f.th f.md=if (placesOf s t []).any (xU f.th (-1))=false then (Fo.none,false)
  else aY s ((placesOf s t []).drop ((placesOf s t []).findIdx (xU f.th (-1))+if f.md<0 then 1 else 0)) n:=rfl
 refine fb Tryz.func68 Tryz.ntmps68 [.cell 8 43,.tmp 9] fun w0 I0 F0 hF=>?_
 repeat first|refine n1 ?_|(first|refine rg 0 [0,1,2,3] [0,1,2,7,8] [] ?_|refine rg 1 [0,1,2,7,8] [0,2,7,8,10] [] ?_);simp[hF]
 refine(oE).go [(0,[])] (by simp[hF,au,bB]) ?_;rintro av X κ ⟨rfl,rfl,rfl⟩;simp[hF,au,bB]
 generalize placesOf s t []=l at *
 repeat first|refine n1 ?_|refine rg 2 [0,2,7,8,10] [0,2,7,8,10,11] [] ?_;simp[hF]
 refine(Dw false l f.th (-1) (by omega)).go [(3,[])] (by simp[hF,bB,bR,aK]) ?_;rintro av X κ ⟨rfl,rfl,rfl⟩;simp[hF,bB,bR,aK]
 by_cases hat:lZ (xU f.th (-1)) l=-1
 ·have ha:l.any (xU f.th (-1))=false:=by
   cases hx:l.any (xU f.th (-1)) with
   | false=>rfl
   | true=>rw[←qN] at hx;omega
  rw[ha] at zY
  have he:bZ s t n f.th f.md=(Fo.none,false):=by rw[zY];simp
  rw[he]
  repeat first|refine n1 ?_|refine n3 ?_|(first|refine rg 3 [0,2,7,8,10,11] [0,2,7,8,10,11,20] [] ?_|refine rg 4 [8] [8,9] [] ?_|refine nc ?_);simp[hF,hat]
  (try refine nr ?_);(repeat first|refine aF ?_|refine aG ?_);refine ak.o [8,9] [0,2] [] ?_;simp[hF,an,aa,ah,au,bR,aK,Fo.none,En.none]
 ·obtain⟨i,hi,hie,hp,hall⟩:=rP hat
  have ha:l.any (xU f.th (-1))=true:=by rw[←qN];omega
  have QN:l.findIdx (xU f.th (-1))=i:=(List.findIdx_eq hi).2 ⟨hp,fun j hj=>hall j hj⟩
  rw[ha,QN] at zY
  have hneg:¬(i:Int)<0:=by omega
  by_cases hm:f.md<0
  ·have he:bZ s t n f.th f.md=aY s (l.drop (i+1)) n:=by rw[zY];simp[hm]
   have hw:IntKind.i64.wrap ((i:Int)+1)=((i+1:Nat):Int):=by rw[IntWalk.i64_in _ (by omega)];rfl
   have hle:((i+1:Nat):Int)≤l.length:=by omega
   have hle2:i+1≤l.length:=by omega
   have ZU:0≤(i:Int)+1:=by omega
   rw[he]
   repeat first|refine n1 ?_|refine n3 ?_|refine n4 ?_|(first|refine rg 3 [0,2,7,8,10,11] [0,2,7,8,10,11,20] [] ?_|refine rg 5 [0,2,7,8,10,11] [0,2,8,10,11,24] [] ?_|refine rg 6 [0,2,8,10,11] [0,2,8,10,11] [] ?_|refine rg 7 [0,2,8,10,11] [8,9] [] ?_|refine nc ?_);simp[hF,hie,hneg,hm,hw,hle,hle2,ZU]
   refine(wv o s l (i+1) (l.length-(i+1)) (by omega) (by omega) false n).go [(0,[]),(3,[])] (by simp[hF,au,bB,kM]) ?_;rintro av X κ ⟨rfl,rfl,rfl⟩;simp[hF,au,bB,kM]
   repeat refine n1 ?_
   (try refine nr ?_);(repeat first|refine aF ?_|refine aG ?_);refine ak.o [8,9] [0,2] [] ?_;simp[hF,an,aa,ah,au,bR,aK]
  ·have he:bZ s t n f.th f.md=aY s (l.drop i) n:=by rw[zY];simp[hm]
   have hle:(i:Int)≤l.length:=by omega
   have hle2:i≤l.length:=by omega
   rw[he]
   repeat first|refine n1 ?_|refine n2 ?_|refine n3 ?_|refine n4 ?_|(first|refine rg 3 [0,2,7,8,10,11] [0,2,7,8,10,11,20] [] ?_|refine rg 5 [0,2,7,8,10,11] [0,2,8,10,11,24] [] ?_|refine rg 7 [0,2,8,10,11] [8,9] [] ?_|refine nc ?_);simp[hF,hie,hneg,hm,hle,hle2]
   refine(wv o s l i (l.length-i) (by omega) (by omega) false n).go [(0,[]),(3,[])] (by simp[hF,au,bB,kM]) ?_;rintro av X κ ⟨rfl,rfl,rfl⟩;simp[hF,au,bB,kM]
   repeat refine n1 ?_
   (try refine nr ?_);(repeat first|refine aF ?_|refine aG ?_);refine ak.o [8,9] [0,2] [] ?_;simp[hF,an,aa,ah,au,bR,aK]
def kN (l:List Fo):D:=sq (l.map bR)
@[simp] theorem adV(l:List Fo):(kN l).len=l.length:=by simp[kN]
theorem Da{l:List Fo}{i:Nat}(h:i<l.length):(kN l).nth i=bR l[i]:=by rw[kN,ep (by simpa using h)];simp
theorem y6(l:List Fo)(f:Fo):(kN l).app (.cons (bR f) .nil)=kN (l++[f]):=by simp only[kN,List.map_append,←gQ];rfl
@[simp] theorem ab'(l:List Fo):(kN l).free=true:=jL fun x hx=>by obtain⟨n,_,rfl⟩:=List.mem_map.1 hx;rfl
@[simp] theorem sE(l:List Fo):(kN l).mid 0 l.length=kN l:=aV _ _ (by simp)
theorem QS(o:Bool){s:Mt}(h:aR s)(t:Int)(n:ByteArray)(act:List Int)(ex:Bool)(ha:act.length≤1000):ai Tryz.prog 24 [au o s] (.cons (.ptr 0 [.d]) (.cons (ag t) (.cons (.val (.string n)) (.cons (.cA 1 (aj act) ex) .nil))))
  fun av X κ=>(if (bp s t n act).2=0 then (∃ex,av=fX (.sub 1 [] 0 (bp s t n act).1.length ex) 0)∧X=[au o s,.sl true () 6 (kN (bp s t n act).1)] else av=fX (.bE 6) (bp s t n act).2∧X=[au o s])∧κ=[]:=by
 have vW:=AE o h t n act ex ha
 refine fb Tryz.func24 Tryz.ntmps24 [.tmp 8,.tmp 9] fun w0 I0 F0 hF=>?_
 repeat first|refine n1 ?_|(first|refine rg 0 [0,1,2,3] [0,1,2,3] [] ?_|refine rg 1 [0,1,2,3] [0,1,2,10,11] [] ?_);simp[hF]
 refine(vW).go [(0,[])] (by simp[hF,au,bR,aK]) ?_;rintro av X κ ⟨rfl,rfl,rfl⟩;simp[hF,au,bR,aK]
 by_cases h0:(aX s t n act).2=0
 ·obtain⟨k,rfl,hk⟩:∃k:Nat,t=k∧k<s.L.length:=by
   refine bD ?_
   cases hv:val s.L t with
   | true=>rfl
   | false=>simp[aX,cB,hv] at h0
  have Vb:aX s k n act=((aJ s k n act).1,0)∧(aJ s k n act).2=true:=by
   unfold aX at h0 ⊢
   split at h0
   ·exact absurd h0 (by assumption)
   ·rename_i ha0
    rw[if_neg ha0]
    unfold toldOf at h0 ⊢
    split at h0
    ·cases h0
    ·rename_i hb
     rw[if_neg hb]
     exact⟨rfl,by simpa using hb⟩
  have hmem:=C8 (s:=s) (t:=(k:Int)) (n:=n) (act:=act) (f:=(aJ s k n act).1) (by rw[←Vb.2])
  have hnd:(aP s.L k).Nodup:=(jx h.ok.wf hk).1
  have va:(aP s.L k).length≤1000:=h.ok.wf.base.elim fun _ B=>dW B hk (h.ok.wf.ord hk)
  have hc:bp s k n act=(gl s k n (2*(aP s.L k).length+2) (aJ s k n act).1,0):=by
   simp only[bp,Vb.1];rfl
  rw[hc]
  rw[Vb.1] at *
  simp only[if_true]
  generalize (aJ s k n act).1=f0 at *
  clear vW Vb
  repeat first|refine n1 ?_|refine n2 ?_|refine n3 ?_|(first|refine rg 2 [0,1,2,10,11] [0,1,2,10,11,24] [] ?_|refine rg 4 [0,1,2,10] [0,1,2,12] [] ?_|refine nc ?_);simp[hF,bR,aK]
  refine VS.pick [0,1,2,12] [0,3] (by simp[hF]) ?_;simp[hF]
  refine VS.rounds (fun m st=>∃(pre:List Fo) (f:Fo) (ex:Bool),gl s k n (2*(aP s.L k).length+2) f0=pre++gl s k n (m+1) f∧f.th∈aP s.L k∧2*(aP s.L k).length≤m+Gp (aP s.L k) f∧pre.length+m≤2002 ∧
   st=⟨[(0,.ptr 0 [.d]),(1,ag k),(2,.val (.string n)),(12,.sub 1 [] 0 (pre++[f]).length ex)],[au o s,.sl true () 6 (kN (pre++[f]))],[],[]⟩) ⟨2*(aP s.L k).length+1,[],f0,true,rfl,hmem.1,by omega,by simp;omega,by simp[au,kN,bR,aK,sq]⟩ ?_
  rintro m st ⟨pre,f,ex,hch,tg,KU,oE,rfl⟩
  have zY:=Rq o h k hk n f
  have hnx:(kN (pre++[f])).nth pre.length=bR f:=by rw[Da (by simp)];simp
  have hw:IntKind.i64.wrap (((pre++[f]).length:Int)-1)=pre.length:=by
   rw[List.length_append,List.length_singleton,IntWalk.i64_in _ (by omega)];omega
  have hlt:(pre.length:Int)<(pre++[f]).length:=by simp;omega
  have rQ:pre.length<(pre++[f]).length:=by simp
  have hlen:(pre++[f]).length=pre.length+1:=by simp
  have hpe:=Ak tg
  have hc1:gl s k n (m+1) f=f::if (bZ s k n f.th f.md).2=true then gl s k n m (bZ s k n f.th f.md).1 else []:=rfl
  rw[hc1] at hch
  generalize gl s k n (2*(aP s.L k).length+2) f0=tot at *
  generalize hq:pre++[f]=q at *
  repeat first|refine n1 ?_|refine n3 ?_|refine rg 5 [0,1,2,12] [0,1,2,12,13,14] [] ?_;simp[hF,hw,hnx,hlt,rQ,bR,aK]
  refine(zY).go [(0,[])] (by simp[hF,au,bR,aK]) ?_;rintro av X κ ⟨rfl,rfl,rfl⟩;simp[hF,au,bR,aK]
  cases hb:(bZ s k n f.th f.md).2 with
  | false =>
   rw[hb] at hch
   simp only[Bool.false_eq_true,if_false] at hch
   have af0:tot=q:=by rw[hch];exact hq
   repeat first|refine n1 ?_|(first|refine rg 6 [0,1,2,12,13,14] [0,1,2,12,13,42] [] ?_|refine rg 7 [12] [8,9] [] ?_|refine nc ?_);simp[hF,hb]
   (try refine nr ?_);(repeat first|refine aF ?_|refine aG ?_);refine ak.o [8,9] [0,1] [] ?_;simp[hF,an,aa,ah,au,af0]
  | true =>
   rw[hb] at hch
   simp only[if_true] at hch
   obtain⟨g1,g2,g3,g4⟩:=y7 hnd (show bZ s k n f.th f.md=((bZ s k n f.th f.md).1,true) from by rw[←hb])
   have dD:=y6 q (bZ s k n f.th f.md).1
   have b1:(q.length+1)*56≤140737488355328:=by omega
   have b2:q.length+1≤9223372036854775807:=by omega
   have hmid:=sE (q++[(bZ s k n f.th f.md).1])
   generalize (bZ s k n f.th f.md).1=g at *
   simp only[bR,aK] at dD
   obtain⟨m,rfl⟩:∃m',m=m'+1:=⟨m-1,by have:=Ak g1;omega⟩
   cases ex
   ·repeat first|refine n1 ?_|refine n2 ?_|refine n4 ?_|refine n6 ?_|(first|refine rg 6 [0,1,2,12,13,14] [0,1,2,12,13,42] [] ?_|refine rg 8 [0,1,2,12,13] [0,1,2,12] [] ?_|refine nc ?_);simp[hF,hb,dD,b1,b2]
    refine aO.of [0,1,2,12] [0,1] (m) (by omega) (by simp[hF]) ?_
    refine⟨q,g,false,by rw[hch,←hq,List.append_assoc];rfl,g1,by omega,by omega,?_⟩
    simp[au]
   ·rw[hlen] at b1 b2
    have adW:(kN q).mid 0 (pre.length+1)=kN q:=by rw[←hlen];exact sE q
    simp only[hlen]
    repeat first|refine n1 ?_|refine n2 ?_|refine n4 ?_|refine n6 ?_|(first|refine rg 6 [0,1,2,12,13,14] [0,1,2,12,13,42] [] ?_|refine rg 8 [0,1,2,12,13] [0,1,2,12] [] ?_|refine nc ?_);simp[hF,hb,dD,b1,b2,adW]
    refine aO.of [0,1,2,12] [0,5] (m) (by omega) (by simp[hF]) ?_
    refine⟨q,g,false,by rw[hch,←hq,List.append_assoc];rfl,g1,by omega,by omega,?_⟩
    simp[au,hlen]
 ·have he:bp s t n act=([],(aX s t n act).2):=by simp[bp,h0]
  repeat first|refine n1 ?_|(first|refine rg 2 [0,1,2,10,11] [0,1,2,10,11,24] [] ?_|refine rg 3 [11] [8,9] [] ?_|refine nc ?_);simp[hF,h0]
  (try refine nr ?_);(repeat first|refine aF ?_|refine aG ?_);refine ak.o [8,9] [0] [] ?_;simp[hF,an,aa,ah,au,he,h0]
end Go.Proofs.YtbhigdljojlhnaaGreat

namespace Go.Vc
set_option linter.all false
open T (cM blk)
theorem ai.Yt{P:Program}{f:FuncId}{z:Nat}{s:D}{Y:List D}{t:AV}{R:AV→List D→List (Nat×Path)→Prop}(h:ai P f Y (t.c9 (.sl true () z s)) R)
  (hR:∀av X κ,R av X κ→av.plain=true) :
  ai P f (.sl true () z s::Y) t fun av X κ=>∃Kg X0 κ0,R Kg X0 κ0∧av=Kg.kO [] 1∧X=.aH ()::X0∧κ=(0,[])::κ0.map fun e=>(e.1+1,e.2):=by
 refine⟨h.1,fun w I F0 vs hY hH hnd hap hlt hil hvs=>?_⟩
 obtain⟨g0,FY,rfl⟩:∃g0 FY,F0=g0::FY:=by
  cases F0 with
  | nil=>simp at hY
  | cons g0 l=>exact⟨g0,l,rfl⟩
 simp only[List.map_cons,List.cons.injEq] at hY
 obtain⟨hY,hYs⟩:=hY
 have nE:=hH g0 (by simp)
 have kG:∀F:List G,own (g0::F)=own [g0]++own F:=fun F=>by simp[own]
 have hog:own [g0]=g0.owned:=by simp[own]
 rw[kG] at hnd hap hlt
 obtain⟨ad1,aaj,RA⟩:=List.nodup_append.1 hnd
 have pE:=hvs.c9 (I':=fun b'=>I b'∨b'∈own [g0]) nE (fun _ h=>.inl h) (fun b hb=>.inr (by rw[hog];exact hb))
 rw[hY] at pE
 refine Calls.mono (h.2 w _ FY vs hYs (fun g' hg'=>(hH g' (by simp[hg'])).agree (fun _ _=>rfl) (fun _ _=>rfl) fun _ h=>.inl h) aaj
  (fun b' hb h'=>h'.elim (hap b' (by simp[hb])) fun h'=>RA b' h' b' hb rfl) (fun b' hb=>hlt b' (by simp[hb])) (fun b' hb=>hb.elim (hil b') fun h'=>hlt b' (by simp[h'])) pE) fun e w' he=>?_
 obtain⟨v',av,X,κ,I',F',rfl,hRR,hi,hr⟩:=he
 have hp:=hR _ _ _ hRR
 obtain⟨a,s0,rfl⟩:∃a s0,g0=.sl true a z s0:=by
  cases g0<;>simp only[T.erase] at hY<;>cases hY
  exact⟨_,_,rfl⟩
 have ad3:a.oneCell'=true:=by
  obtain⟨_,_,_,h4⟩:=nE
  cases a<;>first|rfl|exact absurd h4 (by simp)
 have hj:own ((.aH a:G)::F')=own F':=by simp[own,T.owned]
 have hdt:∀q,dead ((0,[])::κ.map fun e=>(e.1+1,e.2)) 0 q true=true:=fun q=>by simp[dead,ah]
 have hdf:∀q,dead ((0,[])::κ.map fun e=>(e.1+1,e.2)) 0 q false=true∨q=[]:=fun q=>by cases q<;>simp[dead,ah]
 refine⟨v',av.kO [] 1,.aH ()::X,(0,[])::κ.map fun e=>(e.1+1,e.2),I',.aH a::F',rfl,⟨av,X,κ,hRR,rfl,rfl,rfl⟩,⟨?_,?_,?_,?_,?_,?_,hi.os,hi.tape,hi.output,hi.size,?_,?_,fun _ hb=>hi.ek _ (.inl hb),?_,?_⟩,hr.shift hp⟩
 ·simp[hi.erase,T.erase]
 ·intro g' hg'
  rcases List.mem_cons.1 hg' with rfl|hg'
  ·exact ad3
  ·exact hi.holds g' hg'
 ·rw[hj];exact hi.nodup
 ·rw[hj];exact hi.apart
 ·rw[hj];exact hi.lt
 ·exact hi.ic
 ·intro b' hb hn
  rw[kG] at hn
  exact hi.frame b' hb fun h'=>hn (by simp[h'])
 ·intro b' hb hlt'
  rw[hj] at hb
  rw[kG]
  simp[hi.fresh b' hb hlt']
 ·intro b' hb
  rw[kG]
  rcases hi.gY b' hb with (h1|h1)|h1|h1
  ·exact .inl h1
  ·exact .inr (.inr (by simp[h1]))
  ·exact .inr (.inl h1)
  ·exact .inr (.inr (by simp[h1]))
 ·intro k g1 hk
  cases k with
  | zero =>
   simp only[List.getElem?_cons_zero,Option.some.injEq] at hk
   subst hk
   refine⟨_,rfl,rfl,fun q hq=>?_,fun q hq=>?_,fun q v _ hq=>?_⟩
   ·rcases hdf q with h|rfl
    ·rw[h] at hq;cases hq
    ·rfl
   ·rw[hdt] at hq;cases hq
   ·rw[hdt] at hq;cases hq
  | succ k =>
   simp only[List.getElem?_cons_succ] at hk
   obtain⟨g',q1,q2,q3,q4,q5⟩:=hi.base k g1 hk
   have hds:∀q s,dead ((0,[])::κ.map fun e=>(e.1+1,e.2)) (k+1) q s=dead κ k q s:=fun q s=>by
    rw[←nS κ k q s];unfold dead;rw[List.any_cons];simp
   exact⟨g',by simpa using q1,q2,fun q hq=>q3 q (by rwa [hds] at hq),fun q hq=>q4 q (by rwa [hds] at hq),fun q v hv hq=>q5 q v hv (by rwa [hds] at hq)⟩
theorem DE(κ:List (Nat×Path))(nb k:Nat)(q:Path)(s:Bool)(h:k<nb):dead (κ.filter fun e=>Nat.blt e.1 nb) k q s=dead κ k q s:=by
 induction κ with
 | nil=>rfl
 | cons e l ih =>
  rw[List.filter_cons]
  cases hb:Nat.blt e.1 nb with
  | true=>simp only[if_true,dead,List.any_cons] at ih ⊢;rw[ih]
  | false =>
   have hne:(k==e.1)=false:=by
    have:¬e.1<nb:=fun h'=>by rw[←Nat.blt_eq,hb] at h';cases h'
    simp;omega
   simp only[Bool.false_eq_true,if_false,dead,List.any_cons] at ih ⊢
   rw[ih,hne];rfl
theorem VS.oW{c:Cx}{x:Code}{l:List Code}{K:Exit→St→Prop}{st:St}(κ':List (Nat×Path))(hk:(st.κ.filter fun e=>Nat.blt e.1 c.F0.length)=κ')
  (h:VS c (x::l) K { st with κ:=κ' }):VS c (x::l) K st :=
 VS.ghost (st':={ st with κ:=κ' }) (fun a w hr=>by
  obtain⟨h1,h2,I,F,hi,he,hp⟩:=hr
  refine⟨h1,h2,I,F,hi.iY fun k q s hlt hd=>?_,he,hp⟩
  rw[←hk,DE _ _ _ _ _ hlt] at hd
  exact hd) h
end Go.Vc

namespace Go.Proofs.YtbhigdljojlhnaaGreat
set_option linter.all false
open Go.Vc Go.Proofs
set_option maxRecDepth 100000
set_option maxHeartbeats 4000000
attribute [local irreducible] bx jv
theorem Q6{L:List Th}(h:OK L)(hp:0<L.length):ai Tryz.prog 42 [dL L] (.cons (.ptr 0 [.d]) .nil)
  fun av X κ=>av=fX (.ptr 1 [.d]) 0∧X=[dL L,au true ⟨L,[],[]⟩]∧κ=[]:=by
 have hl:=h.len
 have hz:¬L.length=0:=by omega
 refine fb Tryz.func42 Tryz.ntmps42 [.tmp 2,.tmp 3] fun w0 I0 F0 hF=>?_
 repeat first|refine n1 ?_|(first|refine rg 0 [0] [0] [] ?_|refine rg 1 [0] [0,6] [] ?_);simp[hF]
 refine(vI L hl).go [(0,[])] (by simp[hF,dL,hz]) ?_;rintro av X κ ⟨rfl,rfl,rfl⟩;simp[hF,dL,hz]
 repeat first|refine n1 ?_|refine n2 ?_|(first|refine rg 3 [0] [2,3] [] ?_|refine nc ?_);simp[hF]
 refine(VO h hp).go [(0,[])] (by simp[hF,dL]) ?_;rintro av X κ ⟨rfl,rfl,rfl⟩;simp[hF,dL]
 repeat refine n1 ?_
 (try refine nr ?_);(repeat first|refine aF ?_|refine aG ?_);refine ak.o [2,3] [0,4] [] ?_;simp[hF,an,aa,ah,dL,au]
abbrev nA:ByteArray:=⟨#[97]⟩
abbrev nB:ByteArray:=⟨#[98]⟩
def LA:List Th:=L0++[aU 0 0 (-1)]
def LB:List Th:=LA++[aU 1 (-1) (-1)]
theorem YN:OK LA:=(vL (k:=0) (s:=0) (o:=-1) yT (by decide) (by decide) (fun _=>by decide) (fun h=>absurd h (by decide))).1
theorem adX:OK LB:=(vL (k:=1) (s:=-1) (o:=-1) YN (by decide) (by decide) (fun h=>absurd h (by decide)) (fun _=>by decide)).1
theorem oA0:aP LA 0=[0]:=by
 have:aE LA 0=some [0]:=mQ.2 ⟨3,by decide⟩
 unfold aP;rw[this]
theorem oA1:aP LA 1=[1,0]:=by
 have:aE LA 1=some [1,0]:=mQ.2 ⟨3,by decide⟩
 unfold aP;rw[this]
theorem oB1:aP LB 1=[1,0]:=by
 have:aE LB 1=some [1,0]:=mQ.2 ⟨3,by decide⟩
 unfold aP;rw[this]
def s1:Mt:=⟨LA,[],[]⟩
def s2:Mt:=⟨LA,[((0,-1),[(nA,⟨7,0,0,nA⟩)])],[]⟩
def s3:Mt:=⟨LA,[((0,-1),[(nA,⟨7,0,0,nA⟩)]),((1,-1),[(nA,⟨-1,0,1,nA⟩)])],[]⟩
def s4:Mt:=⟨LB,s3.aT,[]⟩
def s5:Mt:=⟨LB,[((0,-1),[(nA,⟨7,0,0,nA⟩)]),((1,-1),[(nA,⟨-1,0,1,nA⟩)]),((0,2),[(nB,⟨8,0,0,nB⟩)])],[]⟩
theorem m0:aR ⟨L0,[],[]⟩:=⟨yT,by decide,by decide,(fun _ _ h=>by cases h),by decide⟩
theorem m1:aR s1:=⟨YN,by decide,by decide,(fun _ _ h=>by cases h),by decide⟩
theorem m2:aR s2:=m1.put (0,-1) nA ⟨7,0,0,nA⟩
theorem m3:aR s3:=m2.put (1,-1) nA ⟨-1,0,1,nA⟩
theorem m4:aR s4:=⟨adX,by decide,m3.nd,m3.ns,m3.nf⟩
theorem m5:aR s5:=m4.put (0,2) nB ⟨8,0,0,nB⟩
theorem e1:bW L0 0=(LA,1,0):=rfl
theorem e2:bt s1 0 nA 7 0=(s2,0):=rfl
theorem q1:aJ s2 1 nA []=(⟨⟨7,0,0,nA⟩,0,-1⟩,true):=by
 have:aP s2.L 1=[1,0]:=oA1
 unfold aJ placesOf;rw[this];rfl
theorem e3:cq s2 1 nA=(s3,0):=by
 unfold cq
 rw[if_neg (by decide),q1];rfl
theorem q2:aX s3 1 nA []=(Fo.none,3):=by
 have:aP s3.L 1=[1,0]:=oA1
 unfold aX aJ placesOf;rw[this];rfl
theorem q3:aX s3 0 nA []=(⟨⟨7,0,0,nA⟩,0,-1⟩,0):=by
 have:aP s3.L 0=[0]:=oA0
 unfold aX aJ placesOf;rw[this];rfl
theorem e4:bN LA=(LB,2,0):=rfl
theorem e5:cC s4 2 0 nB 8=(s5,0):=rfl
theorem q4:aX s5 1 nB [2]=(⟨⟨8,0,0,nB⟩,0,2⟩,0):=by
 have:aP s5.L 1=[1,0]:=oB1
 unfold aX aJ placesOf;rw[this];rfl
theorem sj(o:Bool){s:Mt}(h:aR s)(t:Int)(n:ByteArray):ai Tryz.prog 13 [au o s] (.cons (.ptr 0 [.d]) (.cons (ag t) (.cons (.val (.string n)) (.cons (.bE 1) .nil))))
  fun av X κ=>av=.cT (.cons (o6 (aX s t n []).1) (.cons (ag (aX s t n []).2) .nil))∧X=[au o s,.box true () (bR (aX s t n []).1)]∧κ=[] :=
 ai.fy (AE o h t n [] true (by simp))
theorem n1L:s1.L=LA:=rfl
theorem n1t:s1.aT=[]:=rfl
theorem n1f:s1.fz=[]:=rfl
theorem n2L:s2.L=LA:=rfl
theorem n2f:s2.fz=[]:=rfl
theorem YO:s3.L=LA:=rfl
theorem YP:s3.fz=[]:=rfl
theorem n4L:s4.L=LB:=rfl
theorem n4t:s4.aT=s3.aT:=rfl
theorem n4f:s4.fz=[]:=rfl
theorem n5L:s5.L=LB:=rfl
theorem n5f:s5.fz=[]:=rfl
theorem aae(o:Bool){s:Mt}(h:aR s)(t:Int)(n:ByteArray)(act:List Int)(ex:Bool)(ha:act.length≤1000):ai Tryz.prog 13 [.sl true () 1 (aj act),au o s] (.cons (.ptr 1 [.d]) (.cons (ag t) (.cons (.val (.string n)) (.cons (.sub 0 [] 0 act.length ex) .nil))))
  fun av X κ=>av=.cT (.cons (o6 (aX s t n act).1) (.cons (ag (aX s t n act).2) .nil))∧X=[.aH (),au o s,.box true () (bR (aX s t n act).1)]∧κ=[(0,[])]:=by
 have hm:=AE o h t n act ex ha
 refine ai.mono (ai.Yt (z:=1) (s:=aj act) (Y:=[au o s]) (by simpa[AV.c9] using hm) ?_) ?_
 ·rintro av X κ ⟨rfl,_,_⟩;rfl
 ·rintro av X κ ⟨Kg,X0,κ0,⟨rfl,rfl,rfl⟩,rfl,rfl,rfl⟩
  exact⟨rfl,rfl,rfl⟩
theorem Wn:ai Tryz.prog 15 [] .nil fun av X κ=>av=aN true∧X=[]∧κ=[]:=by
 have hl0:L0.length≤1000:=by decide
 have hlA:LA.length≤1000:=by decide
 have c1:=CB L0 hl0 0
 have c2:=tQ m1 0 nA 7 0
 have c3:=uD m2 1 nA
 have c4:=sj true m3 1 nA
 have c5:=sj true m3 0 nA
 have c6:=yO LA hlA
 have c7:=zb m4 2 0 nB 8
 have c8:=aae true m5 1 nB [2] true (by simp)
 rw[e1] at c1
 rw[e2] at c2
 rw[e3] at c3
 rw[q2] at c4
 rw[q3] at c5
 rw[e4] at c6
 rw[e5] at c7
 rw[q4] at c8
 refine fb Tryz.func15 Tryz.ntmps15 [.tmp 0] fun w0 I0 F0 hF=>?_
 repeat first|refine n1 ?_|(first|refine rg 0 [] [] [] ?_|refine rg 1 [] [1,2] [] ?_);simp[hF]
 refine(vJ).go [] (by simp[hF]) ?_;rintro av X κ ⟨rfl,rfl,rfl⟩;simp[hF]
 repeat refine n1 ?_
 refine(Q6 yT (by decide)).go [(0,[])] (by simp[hF,dL]) ?_;rintro av X κ ⟨rfl,rfl,rfl⟩;simp[hF,dL]
 repeat first|refine n1 ?_|refine rg 2 [1,2] [1,28] [(2,20),(6,24)] ?_;simp[hF]
 refine(bX true ⟨L0,[],[]⟩).go [(1,[])] (by simp[hF,au,dL]) ?_;rintro av X κ ⟨rfl,rfl,rfl⟩;simp[hF,au,dL]
 repeat first|refine n1 ?_|refine n2 ?_|(first|refine rg 4 [1] [1,3] [] ?_|refine nc ?_);simp[hF]
 refine(bX true ⟨L0,[],[]⟩).go [(1,[])] (by simp[hF,au,dL]) ?_;rintro av X κ ⟨rfl,rfl,rfl⟩;simp[hF,au,dL]
 repeat refine n1 ?_
 refine(c1).go [(1,[.d,.f 0])] (by simp[hF,au,dL]) ?_;rintro av X κ ⟨rfl,rfl,rfl⟩;simp[hF,au,dL]
 repeat first|refine n1 ?_|refine rg 5 [1,3] [1,3] [] ?_;simp[hF]
 refine(c2).go [(1,[])] (by simp[hF,au,dL,n1L,n1t,n1f,n2L,n2f]) ?_;rintro av X κ ⟨rfl,rfl,rfl⟩;simp[hF,au,dL,n1L,n1t,n1f,n2L,n2f]
 repeat first|refine n1 ?_|refine rg 6 [1,3] [1,3] [] ?_;simp[hF]
 refine(c3).go [(1,[])] (by simp[hF,au,dL,n2L,n2f,YO,YP]) ?_;rintro av X κ ⟨rfl,rfl,rfl⟩;simp[hF,au,dL,n2L,n2f,YO,YP]
 repeat first|refine n1 ?_|refine rg 7 [1,3] [1,3,6] [] ?_;simp[hF]
 refine(c4).go [(1,[])] (by simp[hF,au,dL,YO,YP,bR,aK]) ?_;rintro av X κ ⟨rfl,rfl,rfl⟩;simp[hF,au,dL,YO,YP,bR,aK]
 repeat first|refine n1 ?_|refine rg 8 [1,3,6] [1,3,6,7,8] [] ?_;simp[hF]
 refine(c5).go [(1,[])] (by simp[hF,au,dL,YO,YP,bR,aK]) ?_;rintro av X κ ⟨rfl,rfl,rfl⟩;simp[hF,au,dL,YO,YP,bR,aK]
 repeat first|refine n1 ?_|refine rg 9 [1,3,6,7,8] [1,3,6,7,8,9] [] ?_;simp[hF]
 refine(bX true s3).go [(1,[])] (by simp[hF,au,dL,YO,YP]) ?_;rintro av X κ ⟨rfl,rfl,rfl⟩;simp[hF,au,dL,YO,YP]
 repeat refine n1 ?_
 refine(c6).go [(1,[.d,.f 0])] (by simp[hF,au,dL]) ?_;rintro av X κ ⟨rfl,rfl,rfl⟩;simp[hF,au,dL]
 repeat first|refine n1 ?_|refine rg 10 [1,3,6,7,8,9] [1,3,6,7,8,9] [] ?_;simp[hF]
 refine(c7).go [(1,[])] (by simp[hF,au,dL,n4L,n4t,n4f,n5L,n5f]) ?_;rintro av X κ ⟨rfl,rfl,rfl⟩;simp[hF,au,dL,n4L,n4t,n4f,n5L,n5f]
 repeat first|refine n1 ?_|refine rg 11 [1,3,6,7,8,9] [3,6,7,8,9,11,12] [] ?_;simp[hF]
 refine(c8).go [(6,[]),(1,[])] (by simp[hF,dG,au,dL,n5L,n5f,bR,aK]) ?_;rintro av X κ ⟨rfl,rfl,rfl⟩;simp[hF,dG,au,dL,n5L,n5f,bR,aK]
 repeat first|refine n1 ?_|refine rg 12 [3,6,7,8,9,11,12] [0] [(2,70),(6,74),(10,78),(16,84),(20,88),(26,94)] ?_;simp[hF]
 (try refine nr ?_);(repeat first|refine aF ?_|refine aG ?_);refine ak.o [0] [] [] ?_;simp[hF,an,aa,ah]
end Go.Proofs.YtbhigdljojlhnaaGreat

namespace Go.Proofs.YtbhigdljojlhnaaGreat
set_option linter.all false
open Go.Vc Go.Proofs
def dR (R:List Th):D:=.box true () (.agg (.cons (.val (.bool true)) (.cons (.sl true () 6 (ie R)) .nil)))
@[simp high] theorem aeW(R:List Th):aW (dR R)=true:=by rw[dR,aW]
theorem Qo{x:List Int}:gR x=true↔x=[]:=by simp[gR]
theorem KZ(g:List Int→List Int)(hg:g []=[])(ls:List (List Int)) :
  ((ls.filter fun x=>!gR x).map g).filter (fun x=>!gR x)=(ls.map g).filter fun x=>!gR x:=by
 induction ls with
 | nil=>rfl
 | cons x l ih =>
  cases h:gR x with
  | true =>
   have:=Qo.1 h
   subst this
   simp only[List.filter_cons,List.map_cons,hg,h]
   exact ih
  | false =>
   simp only[List.filter_cons,List.map_cons,h,Bool.not_false,if_true]
   rw[ih]
theorem z7(f:Nat)(g:List Int→List Int)(hg:g []=[])(ls:List (List Int))(out:List Int) :
  ew f ((ls.filter fun x=>!gR x).map g) out=ew f (ls.map g) out:=by
 cases f with
 | zero=>rfl
 | succ f=>unfold ew;rw[KZ g hg]
theorem xY(ls:List (List Int))(v:Int):bV (ls.filter fun x=>!gR x) v=bV ls v:=by
 unfold bV
 induction ls with
 | nil=>rfl
 | cons x l ih =>
  cases h:gR x with
  | true =>
   have:=Qo.1 h
   subst this
   simp only[List.filter_cons,h,List.any_cons]
   rw[←ih];rfl
  | false=>simp only[List.filter_cons,h,Bool.not_false,if_true,List.any_cons,ih]
theorem F3(ls:List (List Int))(p:List Int→Bool):(ls.filter fun x=>!gR x).find? p=ls.find? fun x=>!gR x&&p x:=by
 induction ls with
 | nil=>rfl
 | cons x l ih =>
  cases h:gR x with
  | true=>simp only[List.filter_cons,h,List.find?_cons];exact ih
  | false =>
   simp only[List.filter_cons,h,Bool.not_false,if_true,List.find?_cons,Bool.true_and]
   rw[ih]
theorem vO(v:Int):bz v []=[]:=by unfold bz;split<;>rfl
def fit (ls:List (List Int)) (x:List Int):Bool:=!gR x && !bV ls (hd x)
theorem z8(f:Nat)(ls:List (List Int))(out:List Int):ew (f+1) ls out =
  if ls.any (fun x=>!gR x)=false then some out else match ls.find? (fit ls) with
   | none=>none
   | some x=>ew f (ls.map (bz (hd x))) (out++[hd x]):=by
 have h1:((ls.filter fun x=>!gR x)=[])↔ls.any (fun x=>!gR x)=false:=by
  rw[List.filter_eq_nil_iff];simp
 have h2:(fun x=>!bV (ls.filter fun x=>!gR x) (hd x))=fun x=>!bV ls (hd x):=by funext x;rw[xY]
 rw[ew,h2,F3]
 by_cases h:ls.any (fun x=>!gR x)=false
 ·rw[if_pos h,if_pos (h1.2 h)]
 ·rw[if_neg h,if_neg fun e=>h (h1.1 e)]
  show _=match ls.find? (fun x=>!gR x && !bV ls (hd x)) with
   | none=>none
   | some x=>ew f (ls.map (bz (hd x))) (out++[hd x])
  cases ls.find? (fun x=>!gR x && !bV ls (hd x)) with
  | none=>rfl
  | some x=>exact z7 f _ (vO _) ls _
def bA (l out:List Int):List Int:=l.filter fun x=>!bh out x
theorem vP(v x:Int):bh [v] x=decide (v=x):=by simp[bh]
theorem Aa{v:Int}{y:List Int}(h:v∉y.tail):bA y [v]=bz v y:=by
 have hall:∀l:List Int,v∉l→bA l [v]=l:=fun l hl=>by
  unfold bA
  rw[List.filter_eq_self]
  intro x hx
  rw[vP]
  have:¬v=x:=fun e=>hl (e▸hx)
  simp[this]
 cases y with
 | nil=>rw[vO];rfl
 | cons a l =>
  simp only[List.tail_cons] at h
  have hl:=hall l h
  have Ce:bz v (a::l)=if a=v then l else a::l:=rfl
  rw[Ce]
  unfold bA at hl ⊢
  by_cases e:a=v
  ·rw[if_pos e,List.filter_cons,vP,hl];simp[e]
  ·rw[if_neg e,List.filter_cons,vP,hl];simp[Ne.symm e]
theorem xZ{ls:List (List Int)}{x:List Int}(h:ls.find? (fit ls)=some x):ls.map (fun y=>bA y [hd x])=ls.map (bz (hd x)):=by
 have hf:=List.find?_some h
 simp only[fit,Bool.and_eq_true,Bool.not_eq_true'] at hf
 refine List.map_congr_left fun y hy=>Aa ?_
 intro hm
 have:bV ls (hd x)=true:=List.any_eq_true.2 ⟨y,hy,fk.2 hm⟩
 rw[hf.2] at this;cases this
def pref {α:Type} (f:α→α) (l:List α) (k:Nat):List α:=(l.take k).map f++l.drop k
@[simp] theorem abU{α:Type}(f:α→α)(l:List α):pref f l 0=l:=by simp[pref]
@[simp] theorem Qp{α:Type}(f:α→α)(l:List α):pref f l l.length=l.map f:=by simp[pref]
theorem CI{α:Type}(f:α→α)(l:List α)(k:Nat):(pref f l k).length=l.length:=by simp[pref];omega
theorem Vx{α:Type}(f:α→α)(l:List α)(k:Nat)(h:k<l.length):(pref f l k)[k]'(by rw[CI];exact h)=l[k]:=by
 unfold pref
 rw[List.getElem_append_right (by simp;omega)]
 simp[Nat.min_eq_left (Nat.le_of_lt h)]
theorem Qq{α:Type}(f:α→α)(l:List α)(k:Nat)(h:k<l.length):(pref f l k).set k (f l[k])=pref f l (k+1):=by
 unfold pref
 have hk:((l.take k).map f).length=k:=by simp;omega
 rw[List.set_append,if_neg (by omega),hk,Nat.sub_self,List.drop_eq_getElem_cons h,List.set_cons_zero,List.take_succ_eq_append_getElem h,List.map_append,List.append_assoc]
 rfl
theorem CJ{ls:List (List Int)}{x:List Int}(h:ls.find? (fit ls)=some x):x∈ls∧0<x.length:=by
 have hf:=List.find?_some h
 simp only[fit,Bool.and_eq_true,Bool.not_eq_true'] at hf
 refine⟨List.mem_of_find?_eq_some h,?_⟩
 cases x with
 | nil=>simp[gR] at hf
 | cons a l=>simp
theorem Ac{p:List Int→Bool}{l:List (List Int)}{i:Nat}{x:List Int}(h:(l.take i).find? p=some x):l.find? p=some x:=by
 have:l=l.take i++l.drop i:=(List.take_append_drop i l).symm
 rw[this,List.find?_append,h];rfl
end Go.Proofs.YtbhigdljojlhnaaGreat

namespace Go.Proofs.YtbhigdljojlhnaaGreat
set_option linter.all false
open Go.Vc Go.Proofs
set_option maxRecDepth 100000
set_option maxHeartbeats 4000000
attribute [local irreducible] bx jv
theorem Vy:ai Tryz.prog 72 [] .nil fun av X κ=>av=.ptr 0 [.d]∧X=[dR L0]∧κ=[]:=by
 refine fb Tryz.func72 Tryz.ntmps72 [.tmp 0] fun w0 I0 F0 hF=>?_
 repeat first|refine n1 ?_|(first|refine rg 0 [] [] [] ?_|refine rg 1 [] [0] [] ?_);simp[hF]
 refine VS.er 1 [.d,.f 1,.i 0,.f 4] (by simp[hF,T.freeze]) (by simp[hF,T.freeze]) (by simp[hF,T.freeze]) ?_;simp[hF,St.er,T.freeze]
 refine VS.er 1 [.d,.f 1,.i 0,.f 5] (by simp[hF,T.freeze]) (by simp[hF,T.freeze]) (by simp[hF,T.freeze]) ?_;simp[hF,St.er,T.freeze]
 (try refine nr ?_);(repeat first|refine aF ?_|refine aG ?_);refine ak.o [0] [1] [] ?_;simp[hF,an,aa,ah,dR,ie,L0,dTh,sq,aj]
theorem vQ(R:List Th):ai Tryz.prog 28 [dR R] (.cons (.ptr 0 [.d]) .nil) fun av X κ=>av=aN false∧X=[dR R]∧κ=[]:=by
 refine fb Tryz.func28 Tryz.ntmps28 [.tmp 2] fun w0 I0 F0 hF=>?_
 repeat first|refine n1 ?_|(first|refine rg 0 [0] [0] [] ?_|refine rg 1 [0] [2] [(2,5)] ?_);simp[hF,dR]
 (try refine nr ?_);(repeat first|refine aF ?_|refine aG ?_);refine ak.o [2] [0] [] ?_;simp[hF,an,aa,ah,dR]
theorem Ke(R:List Th):ai Tryz.prog 10 [dR R] (.cons (.ptr 0 [.d]) .nil) fun av X κ=>av=ag R.length∧X=[dR R]∧κ=[]:=by
 refine fb Tryz.func10 Tryz.ntmps10 [.tmp 2] fun w0 I0 F0 hF=>?_
 repeat first|refine n1 ?_|(first|refine rg 0 [0] [0] [] ?_|refine rg 1 [0] [0,4] [] ?_);simp[hF]
 refine(vQ R).go [(0,[])] (by simp[hF,dR]) ?_;rintro av X κ ⟨rfl,rfl,rfl⟩;simp[hF,dR]
 repeat first|refine n1 ?_|refine n2 ?_|(first|refine rg 3 [0] [2] [] ?_|refine nc ?_);simp[hF,dR]
 (try refine nr ?_);(repeat first|refine aF ?_|refine aG ?_);refine ak.o [2] [0] [] ?_;simp[hF,an,aa,ah,dR]
theorem cR(R:List Th)(t:Int):ai Tryz.prog 104 [dR R] (.cons (.ptr 0 [.d]) (.cons (ag t) .nil)) fun av X κ=>av=aN (val R t)∧X=[dR R]∧κ=[]:=by
 refine fb Tryz.func104 Tryz.ntmps104 [.tmp 4] fun w0 I0 F0 hF=>?_
 repeat first|refine n1 ?_|(first|refine rg 0 [0,1] [0,1] [] ?_|refine rg 1 [0,1] [4] [(3,8),(7,12)] ?_);simp[hF]
 by_cases h1:0≤t
 ·by_cases h2:t<R.length
  ·refine(vQ R).go [(0,[])] (by simp[hF,dR,h1,h2]) ?_;rintro av X κ ⟨rfl,rfl,rfl⟩;simp[hF,dR,h1,h2]
   repeat refine n1 ?_
   (try refine nr ?_);(repeat first|refine aF ?_|refine aG ?_);refine ak.o [4] [0] [] ?_;simp[hF,an,aa,ah,dR,val,h1,h2]
  ·refine(vQ R).go [(0,[])] (by simp[hF,dR,h1,h2]) ?_;rintro av X κ ⟨rfl,rfl,rfl⟩;simp[hF,dR,h1,h2]
   repeat refine n1 ?_
   (try refine nr ?_);(repeat first|refine aF ?_|refine aG ?_);refine ak.o [4] [0] [] ?_;simp[hF,an,aa,ah,dR,val,h1,h2]
 ·refine(vQ R).go [(0,[])] (by simp[hF,dR,h1]) ?_;rintro av X κ ⟨rfl,rfl,rfl⟩;simp[hF,dR,h1]
  repeat refine n1 ?_
  (try refine nr ?_);(repeat first|refine aF ?_|refine aG ?_);refine ak.o [4] [0] [] ?_;simp[hF,an,aa,ah,dR,val,h1]
theorem Kf{l:List Int}{v:Int}{i:Nat}(hi:i<l.length)(h:l[i]=v):bh l v=true:=fk.2 (h▸List.getElem_mem hi)
theorem CK{l:List Int}{v:Int}(h:∀j,(hj:j<l.length)→l[j]≠v):bh l v=false:=by
 cases hb:bh l v with
 | false=>rfl
 | true =>
  obtain⟨j,hj,e⟩:=List.getElem_of_mem (fk.1 hb)
  exact absurd e (h j hj)
theorem tE(ex:Bool)(l:List Int)(v:Int)(hl:l.length≤100000000):ai Tryz.prog 126 [] (.cons (.cA 1 (aj l) ex) (.cons (ag v) .nil))
  fun av X κ=>av=aN (bh l v)∧X=[]∧κ=[]:=by
 refine fb Tryz.func126 Tryz.ntmps126 [.tmp 4] fun w0 I0 F0 hF=>?_
 repeat first|refine n1 ?_|refine n3 ?_|(first|refine rg 0 [0,1] [0,1] [] ?_|refine rg 1 [0,1] [0,1,5] [] ?_);simp[hF]
 refine VS.rounds (fun m st=>∃(i:Nat),i+m=l.length∧(∀j,(hj:j<i)→(h:j<l.length)→l[j]≠v)∧st=⟨[(0,.cA 1 (aj l) ex),(1,ag v),(5,ag i)],[],[],[]⟩) ⟨l.length,0,by omega,fun j hj=>by omega,by simp⟩ ?_
 rintro m st ⟨i,hi,hall,rfl⟩
 repeat first|refine n1 ?_|(first|refine rg 2 [0,1,5] [0,1,5,9] [] ?_|refine nc ?_);simp[hF]
 refine⟨fun hlt=>?_,fun hge=>?_⟩
 ·have hil:i<l.length:=by omega
  have hn:=bP hil
  by_cases he:l[i]=v
  ·have hh:=Kf hil he
   repeat first|refine n1 ?_|refine n2 ?_|refine n3 ?_|(first|refine rg 4 [0,1,5] [0,1,5,17] [] ?_|refine rg 5 [] [4] [] ?_|refine nc ?_);simp[hF,hn,hil,he]
   (try refine nr ?_);(repeat first|refine aF ?_|refine aG ?_);refine ak.o [4] [] [] ?_;simp[hF,an,aa,ah,hh]
  ·repeat first|refine n1 ?_|refine n2 ?_|refine n3 ?_|refine n4 ?_|refine n5 ?_|refine n6 ?_|(first|refine rg 3 [0,1,5] [0,1,5] [] ?_|refine rg 4 [0,1,5] [0,1,5,17] [] ?_|refine nc ?_);simp[hF,hn,hil,he]
   refine aO.of [0,1,5] [] (m-1) (by omega) (by simp[hF]) ?_
   refine⟨i+1,by omega,fun j hj h=>?_,?_⟩
   ·by_cases hji:j=i
    ·subst hji;exact he
    ·exact hall j (by omega) h
   ·simp
    exact IntWalk.i64_in _ (by omega)
 ·have hh:bh l v=false:=CK fun j hj=>hall j (by omega) hj
  repeat first|refine n1 ?_|refine n7 ?_|refine rg 6 [] [4] [] ?_;simp[hF]
  (try refine nr ?_);(repeat first|refine aF ?_|refine aG ?_);refine ak.o [4] [] [] ?_;simp[hF,an,aa,ah,hh]
theorem CL{p:Int→Bool}{l:List Int}{i:Nat}(h:i<l.length):(l.take (i+1)).filter p=(l.take i).filter p++if p l[i] then [l[i]] else []:=by
 rw[List.take_succ_eq_append_getElem h,List.filter_append]
 cases h:p l[i]<;>simp[h]
theorem vR(ex U8:Bool)(l out:List Int)(hl:l.length≤100000000)(ho:out.length≤100000000):ai Tryz.prog 150 [] (.cons (.cA 1 (aj l) ex) (.cons (.cA 1 (aj out) U8) .nil))
  fun av X κ=>av=.sub 0 [] 0 (bA l out).length false∧X=[.sl true () 1 (aj (bA l out))]∧κ=[]:=by
 refine fb Tryz.func150 Tryz.ntmps150 [.tmp 4] fun w0 I0 F0 hF=>?_
 repeat first|refine n1 ?_|refine n3 ?_|(first|refine rg 0 [0,1] [0,1] [] ?_|refine rg 1 [0,1] [0,1,5] [] ?_|refine rg 2 [0,1,5] [0,1,5,6] [] ?_);simp[hF]
 refine VS.eT 5 1 (by simp) ?_
 refine VS.pick [0,1,5,6] [0] (by simp[hF]) ?_;simp[hF]
 refine VS.rounds (fun m st=>∃(i:Nat) (r:List Int),i+m=l.length∧r=bA (l.take i) out∧st=⟨[(0,.cA 1 (aj l) ex),(1,.cA 1 (aj out) U8),(5,.sub 0 [] 0 r.length false),(6,ag i)],[.sl true () 1 (aj r)],[],[]⟩) ⟨l.length,0,[],by omega,rfl,by simp⟩ ?_
 rintro m st ⟨i,r,hi,hr,rfl⟩
 repeat first|refine n1 ?_|(first|refine rg 3 [0,1,5,6] [0,1,5,6,10] [] ?_|refine nc ?_);simp[hF]
 refine⟨fun hlt=>?_,fun hge=>?_⟩
 ·have hil:i<l.length:=by omega
  have hn:=bP hil
  have hrl:r.length≤l.length:=by
   rw[hr];exact Nat.le_trans (List.length_filter_le _ _) (by rw[List.length_take];omega)
  have ZC:=CL (p:=fun x=>!bh out x) hil
  have dD:=fK r l[i]
  have b1:(r.length+1)*8≤140737488355328:=by omega
  have b2:r.length+1≤9223372036854775807:=by omega
  have hmid:=gU (r++[l[i]])
  repeat first|refine n1 ?_|refine n2 ?_|refine n3 ?_|refine rg 5 [0,1,5,6] [0,1,5,6,19] [] ?_;simp[hF,hn,hil]
  refine(tE U8 out l[i] ho).go [] (by simp[hF,hn,hil]) ?_;rintro av X κ ⟨rfl,rfl,rfl⟩;simp[hF,hn,hil]
  cases hh:bh out l[i] with
  | true =>
   repeat first|refine n2 ?_|refine n4 ?_|refine n5 ?_|refine n6 ?_|(first|refine rg 4 [0,1,5,6] [0,1,5,6] [] ?_|refine nc ?_);simp[hF,hh]
   refine aO.of [0,1,5,6] [0] (m-1) (by omega) (by simp[hF]) ?_
   refine⟨i+1,r,by omega,?_,?_⟩
   ·rw[hr];unfold bA;rw[ZC,hh];simp
   ·simp
    exact IntWalk.i64_in _ (by omega)
  | false =>
   repeat first|refine n4 ?_|refine n5 ?_|refine n6 ?_|(first|refine rg 4 [0,1,5,6] [0,1,5,6] [] ?_|refine rg 6 [0,1,5,6] [0,1,5,6] [] ?_|refine nc ?_);simp[hF,hh,hn,hil,dD,b1,b2]
   refine aO.of [0,1,5,6] [0] (m-1) (by omega) (by simp[hF]) ?_
   refine⟨i+1,r++[l[i]],by omega,?_,?_⟩
   ·rw[hr];unfold bA;rw[ZC,hh];simp
   ·simp
    exact IntWalk.i64_in _ (by omega)
 ·obtain rfl:i=l.length:=by omega
  rw[List.take_length] at hr
  subst hr
  repeat first|refine n1 ?_|refine n7 ?_|refine rg 7 [5] [4] [] ?_;simp[hF]
  (try refine nr ?_);(repeat first|refine aF ?_|refine aG ?_);refine ak.o [4] [0] [] ?_;simp[hF,an,aa,ah]
theorem vc(L:List Th)(hl:L.length≤5000)(k s o w:Int):ai Tryz.prog 105 [dR L] (.cons (.ptr 0 [.d]) (.cons (Yq k s o w) .nil))
  fun av X κ=>av=ag L.length∧X=[dR (L++[⟨k,s,o,w,[],[]⟩])]∧κ=[(0,[.d])]:=by
 have rV:=tu L ⟨k,s,o,w,[],[]⟩
 simp only[tq] at rV
 have hmid:(ie (L++[⟨k,s,o,w,[],[]⟩])).mid 0 (L.length+1)=ie (L++[⟨k,s,o,w,[],[]⟩]):=aV _ _ (by simp)
 have hw:IntKind.i64.wrap (L.length:Int)=L.length:=IntWalk.i64_in _ (by omega)
 have KT:IntKind.i64.wrap (((L.length+1:Nat):Int)-1)=L.length:=by
  have:(((L.length+1:Nat):Int)-1)=L.length:=by omega
  rw[this];exact hw
 have b1:(L.length+1)*80≤140737488355328:=by omega
 have b2:L.length+1≤9223372036854775807:=by omega
 refine fb Tryz.func105 Tryz.ntmps105 [.tmp 4] fun w0 I0 F0 hF=>?_
 repeat refine n1 ?_
 refine VS.dN 1 ?_;simp[hF,St.dN]
 repeat first|refine n1 ?_|refine rg 0 [0,1] [0,3] [] ?_;simp[hF]
 refine eP 0 [.d,.f 1] ?_;simp[hF,St.lift,AV.lift,cJ,cK,dV,isNode,dR]
 repeat first|refine n1 ?_|(first|(refine dr 1 0 [0,3] [0] [] [⟨0,1,32,5⟩,⟨0,1,64,5⟩,⟨2,64,128,5⟩,⟨4,128,256,5⟩,⟨8,256,512,6⟩,⟨0,8,1024,6⟩,⟨32,1024,2048,4⟩,⟨80,2560,4096,0⟩,⟨255,32,8192,5⟩,⟨511,8192,16384,5⟩,⟨767,20480,0,0⟩] (.take 0 (.take 1 (.take 2 (.take 3 (.take 4 (.take 5 (.fork (.alt 6 (.fork (.alt 7 (.take 8 (.take 9 (.fork (.alt 10 (.done) (.nil))))) (.nil))) (.nil))))))))) (.run [0,1,2,3,4,5,6,7,8,9,10] (.done)) ?_;simp only[nD])|refine rg 2 [0] [4] [] ?_);simp[hF,rV,hmid,b1,b2,hw,KT]
 (try refine nr ?_);(repeat first|refine aF ?_|refine aG ?_);refine ak.o [4] [0] [(0,[.d])] ?_;simp[hF,an,aa,ah,dR]
theorem K0(L:List Th)(hl:L.length≤1000)(s:Int):ai Tryz.prog 60 [dR L] (.cons (.ptr 0 [.d]) (.cons (ag s) .nil))
  fun av X κ=>av=two (bW L s).2∧X=[dR (bW L s).1]∧κ=[(0,[.d])]:=by
 refine fb Tryz.func60 Tryz.ntmps60 [.tmp 4,.tmp 5] fun w0 I0 F0 hF=>?_
 repeat first|refine n1 ?_|(first|refine rg 0 [0,1] [0,1] [] ?_|refine rg 1 [0,1] [0,1,20] [(4,10)] ?_);simp[hF]
 cases hv:val L s with
 | false =>
  have hc:bW L s=(L,0,1):=by unfold bW;rw[hv];rfl
  refine(cR L s).go [(0,[])] (by simp[hF,dR,hv]) ?_;rintro av X κ ⟨rfl,rfl,rfl⟩;simp[hF,dR,hv]
  repeat first|refine n1 ?_|(first|refine rg 2 [] [4,5] [] ?_|refine nc ?_);simp[hF]
  (try refine nr ?_);(repeat first|refine aF ?_|refine aG ?_);refine ak.o [4,5] [0] [(0,[.d])] ?_;simp[hF,an,aa,ah,dR,hc]
 | true =>
  obtain⟨s,rfl,hs⟩:=bD hv
  have hn:=bH hs
  have ec:=aQ hs
  by_cases hk:L[s].kind=0
  ·refine(cR L s).go [(0,[])] (by simp[hF,dR,hv,hn,hs,hk]) ?_;rintro av X κ ⟨rfl,rfl,rfl⟩;simp[hF,dR,hv,hn,hs,hk]
   by_cases hf:1000<L.length+1
   ·have hc:bW L s=(L,0,9):=by unfold bW;rw[hv,ec,hk,if_neg (by simp),if_pos hf]
    have qA:(1000:Int)≤L.length:=by omega
    repeat first|refine n1 ?_|refine n2 ?_|(first|refine rg 3 [0,1] [0,1,26] [] ?_|refine rg 4 [] [4,5] [] ?_|refine nc ?_);simp[hF,qA]
    (try refine nr ?_);(repeat first|refine aF ?_|refine aG ?_);refine ak.o [4,5] [0] [(0,[.d])] ?_;simp[hF,an,aa,ah,dR,hc]
   ·have hc:bW L s=(L++[aU 0 s (-1)],(L.length:Int),0):=by unfold bW;rw[hv,ec,hk,if_neg (by simp),if_neg hf]
    have qA:¬(1000:Int)≤L.length:=by omega
    repeat first|refine n1 ?_|refine n2 ?_|(first|refine rg 3 [0,1] [0,1,26] [] ?_|refine rg 5 [0,1] [4,5] [] ?_|refine nc ?_);simp[hF,qA]
    refine(vc L (by omega) 0 s (-1) (-1)).go [(0,[])] (by simp[hF,dR]) ?_;rintro av X κ ⟨rfl,rfl,rfl⟩;simp[hF,dR]
    repeat refine n1 ?_
    (try refine nr ?_);(repeat first|refine aF ?_|refine aG ?_);refine ak.o [4,5] [0] [(0,[.d])] ?_;simp[hF,an,aa,ah,dR,hc,aU]
  ·have hc:bW L s=(L,0,1):=by unfold bW;rw[hv,ec,if_pos (by simp[hk])]
   refine(cR L s).go [(0,[])] (by simp[hF,dR,hv,hn,hs,hk]) ?_;rintro av X κ ⟨rfl,rfl,rfl⟩;simp[hF,dR,hv,hn,hs,hk]
   repeat first|refine n1 ?_|(first|refine rg 2 [] [4,5] [] ?_|refine nc ?_);simp[hF]
   (try refine nr ?_);(repeat first|refine aF ?_|refine aG ?_);refine ak.o [4,5] [0] [(0,[.d])] ?_;simp[hF,an,aa,ah,dR,hc]
theorem F4(L:List Th)(hl:L.length≤1000)(hp:0<L.length):ai Tryz.prog 61 [dR L] (.cons (.ptr 0 [.d]) .nil)
  fun av X κ=>av=two (bN L).2∧X=[dR (bN L).1]∧κ=[(0,[.d])]:=by
 have h0:¬L.length=0:=by omega
 refine fb Tryz.func61 Tryz.ntmps61 [.tmp 2,.tmp 3] fun w0 I0 F0 hF=>?_
 repeat first|refine n1 ?_|(first|refine rg 0 [0] [0] [] ?_|refine rg 1 [0] [0,5] [] ?_);simp[hF]
 refine(vQ L).go [(0,[])] (by simp[hF,dR]) ?_;rintro av X κ ⟨rfl,rfl,rfl⟩;simp[hF,dR]
 by_cases hf:1000<L.length+1
 ·have hc:bN L=(L,0,9):=by unfold bN;rw[if_neg h0,if_pos hf]
  have qA:(1000:Int)≤L.length:=by omega
  repeat first|refine n1 ?_|refine n2 ?_|(first|refine rg 3 [0] [0,11] [] ?_|refine rg 4 [] [2,3] [] ?_|refine nc ?_);simp[hF,dR,qA]
  (try refine nr ?_);(repeat first|refine aF ?_|refine aG ?_);refine ak.o [2,3] [0] [(0,[.d])] ?_;simp[hF,an,aa,ah,dR,hc]
 ·have hc:bN L=(L++[aU 1 (-1) (-1)],(L.length:Int),0):=by unfold bN;rw[if_neg h0,if_neg hf]
  have qA:¬(1000:Int)≤L.length:=by omega
  repeat first|refine n1 ?_|refine n2 ?_|(first|refine rg 3 [0] [0,11] [] ?_|refine rg 5 [0] [2,3] [] ?_|refine nc ?_);simp[hF,dR,qA]
  refine(vc L (by omega) 1 (-1) (-1) (-1)).go [(0,[])] (by simp[hF,dR]) ?_;rintro av X κ ⟨rfl,rfl,rfl⟩;simp[hF,dR]
  repeat refine n1 ?_
  (try refine nr ?_);(repeat first|refine aF ?_|refine aG ?_);refine ak.o [2,3] [0] [(0,[.d])] ?_;simp[hF,an,aa,ah,dR,hc,aU]
def F6 (l:List (List Int)) (o:List Int):D:=(iI l).app (.cons (.sl true () 1 (aj o)) .nil)
theorem Vz(l:List (List Int))(o:List Int):(iI l).app (.cons (.sl true () 1 (aj o)) .nil)=F6 l o:=rfl
theorem ve(l:List (List Int))(o:List Int):F6 l o=sq ((l.map fun o=>.sl false () 1 (aj o))++[.sl true () 1 (aj o)]):=by rw[←gQ];rfl
@[simp] theorem acT(l:List (List Int))(o:List Int):(F6 l o).len=l.length+1:=by rw[ve];simp
@[simp] theorem acU(l:List (List Int))(o:List Int):(F6 l o).nth l.length=.sl true () 1 (aj o):=by
 rw[ve,ep (by simp)];simp
@[simp] theorem acV(l:List (List Int))(o:List Int):(F6 l o).br l.length (.sl false () 1 (aj o))=iI (l++[o]):=by
 rw[ve,iP,List.set_append];simp[iI]
@[simp] theorem acW(l:List (List Int))(o:List Int):(F6 l o).mid 0 (l.length+1)=F6 l o:=by rw[ve];exact aV _ _ (by simp)
def F7 (l:List (List Int)) (k:Nat) (o:List Int):D:=(iI l).br k (.sl true () 1 (aj o))
theorem VA(l:List (List Int))(k:Nat)(o:List Int):(iI l).br k (.sl true () 1 (aj o))=F7 l k o:=rfl
@[simp] theorem acX(l:List (List Int))(k:Nat)(o:List Int):(F7 l k o).len=l.length:=by rw[F7,T.bS,kJ]
theorem Qr{l:List (List Int)}{k:Nat}(h:k<l.length)(o:List Int):(F7 l k o).nth k=.sl true () 1 (aj o):=by
 rw[F7,T.aZ _ (by simpa using h)]
theorem Qs(l:List (List Int))(k:Nat)(o:List Int):(F7 l k o).br k (.sl false () 1 (aj o))=iI (l.set k o):=by rw[F7,pV,zR]
theorem K1(ex:Bool)(l:List Int)(v:Int)(hl:l.length≤100000000):ai Tryz.prog 150 [.sl true () 1 (aj [v])] (.cons (.cA 1 (aj l) ex) (.cons (.sub 0 [] 0 1 true) .nil))
  fun av X κ=>av=.sub 1 [] 0 (bA l [v]).length false∧X=[.aH (),.sl true () 1 (aj (bA l [v]))]∧κ=[(0,[])]:=by
 have hm:=vR ex true l [v] hl (by simp)
 refine ai.mono (ai.Yt (z:=1) (s:=aj [v]) (Y:=[]) (by simpa[AV.c9,show (aj [v]).mid 0 1=aj [v] from gU [v]] using hm) ?_) ?_
 ·rintro av X κ ⟨rfl,_,_⟩;rfl
 ·rintro av X κ ⟨Kg,X0,κ0,⟨rfl,rfl,rfl⟩,rfl,rfl,rfl⟩
  exact⟨rfl,rfl,rfl⟩
theorem CM{p:List Int→Bool}{l:List (List Int)}{i:Nat}(h:i<l.length):(l.take (i+1)).any p=((l.take i).any p||p l[i]):=by
 rw[List.take_succ_eq_append_getElem h,List.any_append];simp
theorem K2{p:List Int→Bool}{l:List (List Int)}{i:Nat}(h:i<l.length)(hn:(l.take i).find? p=none):(l.take (i+1)).find? p=if p l[i] then some l[i] else none:=by
 rw[List.take_succ_eq_append_getElem h,List.find?_append,hn]
 cases hp:p l[i]<;>simp[hp]
theorem CN(ls:List (List Int))(hl:ls.length≤10000)(ht:total ls≤100000000)(h0:∀y∈ls,∀v∈y,0≤v):ai Tryz.prog 149 [.sl true () 1 (iI ls)] (.cons (.sub 0 [] 0 ls.length false) .nil)
  fun av X κ=>match fJ ls with
   | some o=>av=.cT (.cons (.sub 1 [] 0 o.length false) (.cons (aN true) .nil))∧X=[.sl true () 1 (iI ls),.sl true () 1 (aj o)]∧κ=[]
   | none=>av=.cT (.cons (.bE 1) (.cons (aN false) .nil))∧X=[.sl true () 1 (iI ls)]∧κ=[]:=by
 refine fb Tryz.func149 Tryz.ntmps149 [.tmp 2,.tmp 3] fun w0 I0 F0 hF=>?_
 repeat first|refine n1 ?_|refine n3 ?_|(first|refine rg 0 [0] [0] [] ?_|refine rg 1 [0] [0,4] [] ?_|refine rg 2 [0,4] [0,4,5] [] ?_);simp[hF]
 refine VS.eT 4 1 (by simp) ?_
 refine VS.pick [0,4,5] [0,1] (by simp[hF]) ?_;simp[hF]
 refine VS.rounds (fun m st=>∃(i:Nat) (acc:List (List Int)),i+m=ls.length∧acc=ls.take i∧st=⟨[(0,.sub 0 [] 0 ls.length false),(4,.sub 1 [] 0 i false),(5,ag i)],[.sl true () 1 (iI ls),.sl true () 1 (iI acc)],[],[]⟩) ⟨ls.length,0,[],by omega,rfl,by simp⟩ ?_
 rintro m st ⟨i,acc,hi,hacc,rfl⟩
 repeat first|refine n1 ?_|(first|refine rg 3 [0,4,5] [0,4,5,17] [] ?_|refine nc ?_);simp[hF]
 refine⟨fun hlt=>?_,fun hge=>?_⟩
 ·have hil:i<ls.length:=by omega
  have hn:=iQ hil
  have hyl:=mP (List.getElem_mem hil)
  have hai:acc.length=i:=by rw[hacc,List.length_take];omega
  have dD:=Vz acc ls[i]
  have b0:ls[i].length*8≤140737488355328:=by omega
  have b3:ls[i].length≤9223372036854775807:=by omega
  have b1:(acc.length+1)*24≤140737488355328:=by omega
  have b2:acc.length+1≤9223372036854775807:=by omega
  subst hai
  repeat first|refine n1 ?_|refine n2 ?_|refine n3 ?_|refine n4 ?_|refine n5 ?_|refine rg 5 [0,4,5] [0,4,5] [] ?_;simp[hF,hn,hil,dD,b0,b3,b1,b2]
  refine VS.er 1 [.i acc.length] (by simp[hF,T.freeze]) (by simp[hF,T.freeze]) (by simp[hF,T.freeze]) ?_;simp[hF,St.er,T.freeze]
  refine VS.pick [0,4,5] [0,1] (by simp[hF]) ?_;simp[hF]
  repeat first|refine n4 ?_|refine n6 ?_|refine rg 4 [0,4,5] [0,4,5] [] ?_;simp[hF]
  refine aO.of [0,4,5] [0,1] (m-1) (by omega) (by simp[hF]) ?_
  refine⟨acc.length+1,acc++[ls[acc.length]],by omega,?_,?_⟩
  ·rw[List.take_succ_eq_append_getElem hil,←hacc]
  ·simp
   exact IntWalk.i64_in _ (by omega)
 ·obtain rfl:i=ls.length:=by omega
  rw[List.take_length] at hacc
  subst hacc
  repeat first|refine n1 ?_|refine n3 ?_|refine n7 ?_|refine rg 6 [4] [4,6] [] ?_;simp[hF]
  refine VS.eT 6 1 (by simp) ?_
  refine VS.pick [4,6] [0,1,2] (by simp[hF]) ?_;simp[hF]
  refine VS.rounds (fun m st=>∃(cur:List (List Int)) (out:List Int) (f:Nat),m=total cur∧total cur<f∧ew f cur out=fJ acc∧cur.length=acc.length∧total cur+out.length≤total acc∧(∀y∈cur,∀v∈y,0≤v) ∧
   st=⟨[(4,.sub 1 [] 0 acc.length false),(6,.sub 2 [] 0 out.length false)],[.sl true () 1 (iI acc),.sl true () 1 (iI cur),.sl true () 1 (aj out)],[],[]⟩)
   ⟨total acc,acc,[],total acc+1,rfl,by omega,rfl,rfl,by simp,h0,by simp⟩ ?_
  rintro m st ⟨cur,out,f,rfl,hf,hmo,qy,htot,hc0,rfl⟩
  obtain⟨f,rfl⟩:∃f',f=f'+1:=⟨f-1,by omega⟩
  rw[z8] at hmo
  repeat first|refine n1 ?_|refine n3 ?_|(first|refine rg 7 [4,6] [4,6,7] [] ?_|refine rg 8 [4,6,7] [4,6,7,8] [] ?_|refine rg 9 [4,6,7,8] [4,6,7,8,9] [] ?_);simp[hF]
  refine VS.pick [4,6,7,8,9] [0,1,2] (by simp[hF]) ?_;simp[hF]
  refine VS.rounds (fun m st=>∃(i:Nat) (sm:Bool) (g:Int),i+m=cur.length∧sm=(cur.take i).any (fun x=>!gR x)∧((g=-1∧(cur.take i).find? (fit cur)=none)∨∃x,cur.find? (fit cur)=some x∧g=hd x∧0≤hd x∧sm=true) ∧
   st=⟨[(4,.sub 1 [] 0 acc.length false),(6,.sub 2 [] 0 out.length false),(7,.val (.bool sm)),(8,ag g),(9,ag i)],[.sl true () 1 (iI acc),.sl true () 1 (iI cur),.sl true () 1 (aj out)],[],[]⟩)
   ⟨cur.length,0,false,-1,by omega,rfl,.inl ⟨rfl,rfl⟩,by simp⟩ ?_
  rintro m2 st ⟨i,sm,g,hi,hsm,xX,rfl⟩
  by_cases hg:g<0
  ·obtain⟨rfl,hnone⟩:g=-1∧(cur.take i).find? (fit cur)=none:=by
    rcases xX with h|⟨x,_,rfl,h,_⟩
    ·exact h
    ·omega
   by_cases hic:i<cur.length
   ·have acY:i<acc.length:=by omega
    have hn:=iQ hic
    have hta:=CM (p:=fun x=>!gR x) hic
    have htf:=K2 hic hnone
    by_cases hz:cur[i].length=0
    ·have hnl:gR cur[i]=true:=by simp[gR,hz]
     have ZC:fit cur cur[i]=false:=by simp[fit,hnl]
     repeat first|refine n1 ?_|refine n2 ?_|refine n3 ?_|refine n4 ?_|refine n6 ?_|refine n7 ?_|refine n8 ?_|(first|refine rg 10 [4,6,7,8,9] [4,6,7,8,9,36] [(4,33)] ?_|refine rg 11 [4,6,7,8,9] [4,6,7,8,9] [] ?_|refine rg 12 [4,6,7,8,9] [4,6,7,8,9,44] [] ?_|refine nc ?_);simp[hF,hic,acY,qy,hn,hz]
     refine aO.of [4,6,7,8,9] [0,1,2] (m2-1) (by omega) (by simp[hF]) ?_
     refine⟨i+1,sm,-1,by omega,?_,.inl ⟨rfl,?_⟩,?_⟩
     ·rw[hta,hnl,←hsm];simp
     ·rw[htf,ZC];rfl
     ·simp
      exact IntWalk.i64_in _ (by omega)
    ·have hnl:gR cur[i]=false:=by simp[gR,hz]
     have hp:0<cur[i].length:=by omega
     have hn0:=bP hp
     have hhd:=Cy hp
     repeat first|refine n1 ?_|refine n2 ?_|refine n3 ?_|(first|refine rg 10 [4,6,7,8,9] [4,6,7,8,9,36] [(4,33)] ?_|refine rg 12 [4,6,7,8,9] [4,6,7,8,9,44] [] ?_|refine rg 13 [4,6,8,9] [4,6,7,8,9] [] ?_|refine rg 14 [4,6,7,8,9] [4,6,7,8,9,10] [] ?_|refine rg 15 [4,6,7,8,9,10] [4,6,7,8,9,10,11] [] ?_|refine rg 16 [4,6,7,8,9,10,11] [4,6,7,8,9,10,11,12] [] ?_|refine nc ?_);simp[hF,hic,acY,qy,hn,hz,hp,hn0]
     have hv0:0≤cur[i][0]:=hc0 _ (List.getElem_mem hic) _ (List.getElem_mem hp)
     generalize hv:cur[i][0]=v at *
     refine VS.pick [4,6,7,8,9,10,11,12] [0,1,2] (by simp[hF]) ?_;simp[hF]
     refine VS.rounds (fun m3 st=>∃(k:Nat) (fr:Bool),k+m3=cur.length∧fr = !((cur.take k).any fun y=>bh y.tail v) ∧
      st=⟨[(4,.sub 1 [] 0 acc.length false),(6,.sub 2 [] 0 out.length false),(7,.val (.bool true)),(8,ag (-1)),(9,ag i),(10,ag v),(11,.val (.bool fr)),(12,ag k)],[.sl true () 1 (iI acc),.sl true () 1 (iI cur),.sl true () 1 (aj out)],[],[]⟩)
      ⟨cur.length,0,true,by omega,rfl,by simp⟩ ?_
     rintro m3 st ⟨k,fr,hk,hfr,rfl⟩
     repeat first|refine n1 ?_|(first|refine rg 17 [4,6,7,8,9,10,11,12] [4,6,7,8,9,10,11,12,54] [] ?_|refine nc ?_);simp[hF,qy]
     refine⟨fun hlt=>?_,fun hge=>?_⟩
     ·have hkc:k<cur.length:=by omega
      have hka:k<acc.length:=by omega
      have hkn:=iQ hkc
      have mL:=CM (p:=fun y=>bh y.tail v) hkc
      by_cases h1:1<cur[k].length
      ·have h1c:(1:Int)<cur[k].length:=by omega
       have VB:1≤cur[k].length:=by omega
       have fW:=qO cur[k]
       have mc:cur[k].length≤100000000:=by have:=mP (List.getElem_mem hkc);omega
       have Cz:cur[k].tail.length≤100000000:=by rw[List.length_tail];omega
       repeat first|refine n1 ?_|refine n2 ?_|refine n3 ?_|refine rg 19 [4,6,7,8,9,10,11,12] [4,6,7,8,9,10,11,12,71] [(6,63)] ?_;simp[hF,hkc,hka,qy,hkn,h1,h1c,VB,fW]
       refine(tE false cur[k].tail v Cz).go [] (by simp[hF,hkc,hka,qy,hkn,h1,h1c,VB,fW]) ?_;rintro av X κ ⟨rfl,rfl,rfl⟩;simp[hF,hkc,hka,qy,hkn,h1,h1c,VB,fW]
       cases hh:bh cur[k].tail v with
       | true =>
        repeat first|refine n4 ?_|refine n5 ?_|refine n6 ?_|(first|refine rg 18 [4,6,7,8,9,10,11,12] [4,6,7,8,9,10,11,12] [] ?_|refine rg 20 [4,6,7,8,9,10,12] [4,6,7,8,9,10,11,12] [] ?_|refine nc ?_);simp[hF,hh]
        refine aO.of [4,6,7,8,9,10,11,12] [0,1,2] (m3-1) (by omega) (by simp[hF]) ?_
        refine⟨k+1,false,by omega,by rw[mL,hh];simp,?_⟩
        simp
        exact IntWalk.i64_in _ (by omega)
       | false =>
        repeat first|refine n2 ?_|refine n4 ?_|refine n5 ?_|refine n6 ?_|(first|refine rg 18 [4,6,7,8,9,10,11,12] [4,6,7,8,9,10,11,12] [] ?_|refine nc ?_);simp[hF,hh]
        refine aO.of [4,6,7,8,9,10,11,12] [0,1,2] (m3-1) (by omega) (by simp[hF]) ?_
        refine⟨k+1,fr,by omega,by rw[mL,hh,hfr];simp,?_⟩
        simp
        exact IntWalk.i64_in _ (by omega)
      ·have hh:bh cur[k].tail v=false:=by
        have:cur[k].tail=[]:=by rw[←List.length_eq_zero_iff,List.length_tail];omega
        rw[this];rfl
       have h1c:¬(1:Int)<cur[k].length:=by omega
       repeat first|refine n1 ?_|refine n2 ?_|refine n3 ?_|refine n4 ?_|refine n5 ?_|refine n6 ?_|(first|refine rg 18 [4,6,7,8,9,10,11,12] [4,6,7,8,9,10,11,12] [] ?_|refine rg 19 [4,6,7,8,9,10,11,12] [4,6,7,8,9,10,11,12,71] [(6,63)] ?_|refine nc ?_);simp[hF,hkc,hka,qy,hkn,h1,h1c]
       refine aO.of [4,6,7,8,9,10,11,12] [0,1,2] (m3-1) (by omega) (by simp[hF]) ?_
       refine⟨k+1,fr,by omega,by rw[mL,hh,hfr];simp,?_⟩
       simp
       exact IntWalk.i64_in _ (by omega)
     ·obtain rfl:k=cur.length:=by omega
      have hit:fr = !bV cur v:=by rw[hfr,List.take_length];rfl
      have ZC:fit cur cur[i]=fr:=by simp only[fit,hnl,hhd,hit];rfl
      cases fr with
      | true =>
       repeat first|refine n1 ?_|refine n4 ?_|refine n5 ?_|refine n6 ?_|refine n7 ?_|(first|refine rg 11 [4,6,7,8,9] [4,6,7,8,9] [] ?_|refine rg 21 [4,6,7,8,9,10,11] [4,6,7,8,9,10,72] [] ?_|refine rg 22 [4,6,7,9,10] [4,6,7,8,9] [] ?_|refine nc ?_);simp[hF]
       refine aO.of [4,6,7,8,9] [0,1,2] (m2-1) (by omega) (by simp[hF]) ?_
       refine⟨i+1,true,v,by omega,by rw[hta,hnl];simp,.inr ⟨cur[i],?_,hhd.symm,by rw[hhd];exact hv0,rfl⟩,?_⟩
       ·exact Ac (by rw[htf,ZC];rfl)
       ·simp
        exact IntWalk.i64_in _ (by omega)
      | false =>
       repeat first|refine n1 ?_|refine n2 ?_|refine n4 ?_|refine n5 ?_|refine n6 ?_|refine n7 ?_|(first|refine rg 11 [4,6,7,8,9] [4,6,7,8,9] [] ?_|refine rg 21 [4,6,7,8,9,10,11] [4,6,7,8,9,10,72] [] ?_|refine nc ?_);simp[hF]
       refine aO.of [4,6,7,8,9] [0,1,2] (m2-1) (by omega) (by simp[hF]) ?_
       refine⟨i+1,true,-1,by omega,by rw[hta,hnl];simp,.inl ⟨rfl,by rw[htf,ZC];rfl⟩,?_⟩
       simp
       exact IntWalk.i64_in _ (by omega)
   ·obtain rfl:i=cur.length:=by omega
    rw[List.take_length] at hnone hsm
    have ac0:¬cur.length<acc.length:=by omega
    rw[←hsm,hnone] at hmo
    cases sm with
    | false =>
     simp only[if_true] at hmo
     rw[←hmo]
     repeat first|refine n1 ?_|refine n7 ?_|(first|refine rg 10 [4,6,7,8,9] [4,6,7,8,9,36] [(4,33)] ?_|refine rg 23 [4,6,7,8] [4,6,8,75] [] ?_|refine rg 24 [6] [2,3] [] ?_|refine nc ?_);simp[hF,ac0,qy]
     (try refine nr ?_);(repeat first|refine aF ?_|refine aG ?_);refine ak.o [2,3] [0,2] [] ?_;simp[hF,an,aa,ah]
    | true =>
     simp only[Bool.true_eq_false,if_false] at hmo
     rw[←hmo]
     repeat first|refine n1 ?_|refine n2 ?_|refine n7 ?_|(first|refine rg 10 [4,6,7,8,9] [4,6,7,8,9,36] [(4,33)] ?_|refine rg 23 [4,6,7,8] [4,6,8,75] [] ?_|refine rg 25 [4,6,8] [4,6,8,78] [] ?_|refine rg 26 [] [2,3] [] ?_|refine nc ?_);simp[hF,ac0,qy]
     (try refine nr ?_);(repeat first|refine aF ?_|refine aG ?_);refine ak.o [2,3] [0] [] ?_;simp[hF,an,aa,ah]
  ·obtain⟨x,hx,rfl,hx0,rfl⟩:∃x,cur.find? (fit cur)=some x∧g=hd x∧0≤hd x∧sm=true:=by
    rcases xX with ⟨rfl,_⟩|h
    ·omega
    ·exact h
   obtain⟨Zs,hxp⟩:=CJ hx
   have ac1:(cur.any fun x=>!gR x)=true:=List.any_eq_true.2 ⟨x,Zs,by cases x with|nil=>simp at hxp|cons a l=>rfl⟩
   rw[ac1,hx] at hmo
   simp only[Bool.true_eq_false,if_false] at hmo
   have hlt:=qE Zs hxp rfl
   have hwr:=xZ hx
   have hxl:=mP Zs
   have dD:=fK out (hd x)
   have b1:(out.length+1)*8≤140737488355328:=by omega
   have b2:out.length+1≤9223372036854775807:=by omega
   have hmid:=gU (out++[hd x])
   generalize hd x=g at *
   clear hx hsm Zs hxp ac1 hxl xX x
   by_cases hic:i<acc.length
   all_goals
    repeat first|refine n1 ?_|refine n2 ?_|refine n3 ?_|refine n7 ?_|(first|refine rg 10 [4,6,7,8,9] [4,6,7,8,9,36] [(4,33)] ?_|refine rg 23 [4,6,7,8] [4,6,8,75] [] ?_|refine rg 25 [4,6,8] [4,6,8,78] [] ?_|refine rg 27 [4,6,8] [4,6,8] [] ?_|refine rg 28 [4,6,8] [4,6,8,13] [] ?_|refine nc ?_);simp[hF,hg,hic,dD,b1,b2]
    refine VS.pick [4,6,8,13] [0,1,2] (by simp[hF]) ?_;simp[hF]
    refine VS.rounds (fun m3 st=>∃(k:Nat),k+m3=cur.length ∧
     st=⟨[(4,.sub 1 [] 0 acc.length false),(6,.sub 2 [] 0 (out.length+1) false),(8,ag g),(13,ag k)],[.sl true () 1 (iI acc),.sl true () 1 (iI (pref (fun y=>bA y [g]) cur k)),.sl true () 1 (aj (out++[g]))],[],[]⟩)
     ⟨cur.length,0,by omega,by simp⟩ ?_
    rintro m3 st ⟨k,hk,rfl⟩
    have oE:=CI (fun y=>bA y [g]) cur k
    repeat first|refine n1 ?_|(first|refine rg 29 [4,6,8,13] [4,6,8,13,86] [] ?_|refine nc ?_);simp[hF,oE,qy]
    refine⟨fun hlt=>?_,fun hge=>?_⟩
    ·have hkc:k<cur.length:=by omega
     have hka:k<acc.length:=by omega
     have hkp:k<(pref (fun y=>bA y [g]) cur k).length:=by omega
     have hkn:=iQ hkp
     rw[Vx _ _ _ hkc] at hkn
     have hsp:=Qq (fun y=>bA y [g]) cur k hkc
     have mc:cur[k].length≤100000000:=by have:=mP (List.getElem_mem hkc);omega
     have hseq:=VA (pref (fun y=>bA y [g]) cur k) k (bA cur[k] [g])
     have hsn:=Qr hkp (bA cur[k] [g])
     have hss:=Qs (pref (fun y=>bA y [g]) cur k) k (bA cur[k] [g])
     rw[hsp] at hss
     repeat first|refine n1 ?_|refine n2 ?_|refine n3 ?_|refine rg 31 [4,6,8,13] [4,6,8,13] [] ?_;simp[hF,hkc,hka,qy,hkn,oE]
     refine(K1 false cur[k] g mc).go [(3,[])] (by simp[hF,dG,hkc,hka,qy,hkn,oE,hseq]) ?_;rintro av X κ ⟨rfl,rfl,rfl⟩;simp[hF,dG,hkc,hka,qy,hkn,oE,hseq]
     repeat first|refine n4 ?_|refine n5 ?_
     refine VS.er 1 [.i k] (by simp[hF,T.freeze,hsn,hss,hkp]) (by simp[hF,T.freeze,hsn,hss,hkp]) (by simp[hF,T.freeze,hsn,hss,hkp]) ?_;simp[hF,St.er,T.freeze,hsn,hss,hkp]
     repeat first|refine n4 ?_|refine n6 ?_|refine rg 30 [4,6,8,13] [4,6,8,13] [] ?_;simp[hF]
     refine aO.of [4,6,8,13] [0,1,2] (m3-1) (by omega) (by simp[hF]) ?_
     refine⟨k+1,by omega,?_⟩
     simp
     exact IntWalk.i64_in _ (by omega)
    ·obtain rfl:k=cur.length:=by omega
     rw[Qp,hwr]
     have hka:¬cur.length<acc.length:=by omega
     repeat first|refine n4 ?_|refine n6 ?_|refine n7 ?_
     refine aO.of [4,6] [0,1,2] (total (cur.map (bz g))) (by omega) (by simp[hF]) ?_
     refine⟨cur.map (bz g),out++[g],f,rfl,by omega,hmo,by simpa using qy,by simp;omega,?_,?_⟩
     ·intro y hy v hv
      obtain⟨z,hz,rfl⟩:=List.mem_map.1 hy
      exact hc0 z hz v (vB hv)
     ·simp
end Go.Proofs.YtbhigdljojlhnaaGreat

namespace Go.Proofs.YtbhigdljojlhnaaGreat
set_option linter.all false
open Go.Vc Go.Proofs
set_option maxRecDepth 100000
set_option maxHeartbeats 4000000
attribute [local irreducible] bx jv
def F8 (l:List Bool):D:=sq (l.map fun b=>.val (.bool b))
@[simp] theorem aeY(l:List Bool):(F8 l).len=l.length:=by simp[F8]
@[simp] theorem ac3(l:List Bool):(F8 l).free=true:=jL fun x hx=>by obtain⟨n,_,rfl⟩:=List.mem_map.1 hx;rfl
theorem Kh{l:List Bool}{i:Nat}(h:i<l.length):(F8 l).nth i=.val (.bool l[i]):=by rw[F8,ep (by simpa using h)];simp
theorem VD(l:List Bool)(i:Nat)(b:Bool):(F8 l).br i (.val (.bool b))=F8 (l.set i b):=by simp only[F8,iP,List.map_set]
theorem Ki(l:List (Bool×List Int))(i:Nat)(b:Bool)(x:List Int):(rM l).br i (.sl b () 1 (aj x))=rM (l.set i (b,x)):=by simp only[rM,iP,List.map_set]
def dO (kn:List Bool) (gd:List (Bool×List Int)):D:=.box true () (.agg (.cons (.sl true () 1 (F8 kn)) (.cons (.sl true () 1 (rM gd)) .nil)))
@[simp high] theorem aeZ(kn:List Bool)(gd:List (Bool×List Int)):aW (dO kn gd)=true:=by rw[dO,aW]
structure jQ (R:List Th) (kn:List Bool) (gd:List (Bool×List Int)):Prop where
 kl:kn.length=R.length
 ll:gd.length=R.length
 ok:∀i:Nat,(h:i<R.length)→kn[i]'(by omega)=true→∃o,aE R i=some o∧gd[i]'(by omega)=(false,o)
def qS (kn vf:List Bool):Prop:=∀j:Nat,kn[j]? = some true→vf[j]? = some true
theorem qS.refl(kn:List Bool):qS kn kn:=fun _ h=>h
theorem qS.trans{a b c:List Bool}(h:qS a b)(h':qS b c):qS a c:=fun j hj=>h' j (h j hj)
def Ad (R:List Th) (t:Nat) (PU:List Bool) (av:AV) (X:List D) (κ:List (Nat×Path)):Prop :=
 ∃kn gd,jQ R kn gd∧qS PU kn∧X=[dR R,dO kn gd]∧κ=[(1,[.d])]∧av=aN (aE R t).isSome∧((aE R t).isSome=true→kn[t]? = some true)
def pW (R:List Th) (r:Int→Nat) (n:Nat):Prop:=∀t:Nat,t<R.length→r t<n→∀kn gd,jQ R kn gd →
 ai Tryz.prog 136 [dR R,dO kn gd] (.cons (.ptr 0 [.d]) (.cons (.ptr 1 [.d]) (.cons (ag t) .nil))) (Ad R t kn)
section
variable {R:List Th} {r:Int→Nat} {n t:Nat} {kn:List Bool} {gd:List (Bool×List Int)}
theorem pW.yes(h:pW R r n)(ht:t<R.length)(hr:r t<n)(hM:jQ R kn gd){o:List Int}(ho:aE R t=some o) :
  ai Tryz.prog 136 [dR R,dO kn gd] (.cons (.ptr 0 [.d]) (.cons (.ptr 1 [.d]) (.cons (ag t) .nil)))
  fun av X κ=>∃vf oS,jQ R vf oS∧qS kn vf∧(rM oS).nth t=.sl false () 1 (aj o)∧av=aN true∧X=[dR R,dO vf oS]∧κ=[(1,[.d])] :=
 ai.mono (h t ht hr kn gd hM) fun av X κ ⟨kn,gd,h1,hmo,h2,h3,h4,h5⟩=>by
  rw[ho] at h4 h5
  have hk:=h5 rfl
  have hl:t<gd.length:=by rw[h1.ll];exact ht
  have mc:t<kn.length:=by rw[h1.kl];exact ht
  rw[List.getElem?_eq_getElem mc,Option.some.injEq] at hk
  obtain⟨o',q1,q2⟩:=h1.ok t ht hk
  rw[ho,Option.some.injEq] at q1
  exact⟨kn,gd,h1,hmo,by rw[pR hl,q2,q1],h4,h2,h3⟩
theorem pW.no(h:pW R r n)(ht:t<R.length)(hr:r t<n)(hM:jQ R kn gd)(ho:aE R t=none) :
  ai Tryz.prog 136 [dR R,dO kn gd] (.cons (.ptr 0 [.d]) (.cons (.ptr 1 [.d]) (.cons (ag t) .nil)))
  fun av X κ=>∃vf oS,jQ R vf oS∧qS kn vf∧av=aN false∧X=[dR R,dO vf oS]∧κ=[(1,[.d])] :=
 ai.mono (h t ht hr kn gd hM) fun av X κ ⟨kn,gd,h1,hmo,h2,h3,h4,h5⟩=>⟨kn,gd,h1,hmo,by rw[ho] at h4;exact h4,h2,h3⟩
end
def U9 (x:Th):D:=.box true () (.agg (.cons (.val (.int .i64 x.kind)) (.cons (.val (.int .i64 x.sup)) (.cons (.val (.int .i64 x.obj)) (.cons (.val (.int .i64 x.own)) (.cons (.sl false () 1 (aj x.bU)) (.cons (.sl false () 1 (aj x.ins)) .nil)))))))
@[simp high] theorem ac4(x:Th):aW (U9 x)=true:=by rw[U9,aW]
theorem ZD{l:List D}(h:∀x∈l,x.di=true):(sq l).di=true:=by
 induction l with
 | nil=>rfl
 | cons a l ih=>simp only[sq,T.di,Bool.and_eq_true];exact⟨h a (by simp),ih fun x hx=>h x (by simp[hx])⟩
@[simp] theorem ac5(l:List Int):(aj l).di=true:=ZD fun x hx=>by obtain⟨n,_,rfl⟩:=List.mem_map.1 hx;rfl
theorem gu(ex U8:Bool)(l out rest:List Int)(hl:l.length≤100000000)(ho:out.length≤100000000):ai Tryz.prog 150 [.sl true () 1 (aj (out++rest)),.sl true () 1 (aj l)] (.cons (.sub 1 [] 0 l.length ex) (.cons (.sub 0 [] 0 out.length U8) .nil))
  fun av X κ=>av=.sub 2 [] 0 (bA l out).length false∧X=[.sl true () 1 (aj (out++rest)),.sl true () 1 (aj l),.sl true () 1 (aj (bA l out))]∧κ=[]:=by
 have hm:=vR ex U8 l out hl ho
 have tg:(aj (out++rest)).mid 0 out.length=aj out:=by rw[ju];simp
 have h1:ai Tryz.prog 150 [.sl true () 1 (aj l)] (.cons (.sub 0 [] 0 l.length ex) (.cons (.cA 1 (aj out) U8) .nil))
   fun av X κ=>av=.sub 1 [] 0 (bA l out).length false∧X=[.sl true () 1 (aj l),.sl true () 1 (aj (bA l out))]∧κ=[]:=by
  refine ai.mono (ai.ac6 (d0:=.sl true () 1 (aj l)) (Y:=[]) (by simpa[AV.c9] using hm) ?_) ?_
  ·rintro av X κ ⟨rfl,rfl,rfl⟩
   exact⟨rfl,by simp[T.di],rfl⟩
  ·rintro av X κ ⟨Kg,X0,⟨rfl,rfl,_⟩,rfl,rfl,rfl⟩
   exact⟨rfl,rfl,rfl⟩
 refine ai.mono (ai.ac6 (d0:=.sl true () 1 (aj (out++rest))) (Y:=[.sl true () 1 (aj l)]) (by simpa[AV.c9,tg] using h1) ?_) ?_
 ·rintro av X κ ⟨rfl,rfl,rfl⟩
  exact⟨rfl,by simp[T.di],rfl⟩
 ·rintro av X κ ⟨Kg,X0,⟨rfl,rfl,_⟩,rfl,rfl,rfl⟩
  exact⟨rfl,rfl,rfl⟩
theorem merged{P Q:Prop}(h:(Unit→Q)→P)(hq:Q):P:=h fun _=>hq
theorem F9{R:List Th}{r:Int→Nat}(B:ez R r){n:Nat}(hF:pW R r n)(t:Nat)(ht:t<R.length)(hr:r t<n+1)(PU:List Bool)(VE:List (Bool×List Int))(hM0:jQ R PU VE) :
  ai Tryz.prog 136 [dR R,dO PU VE] (.cons (.ptr 0 [.d]) (.cons (.ptr 1 [.d]) (.cons (ag t) .nil))) (Ad R t PU):=by
 have hfind:=hF
 clear hF
 unfold Ad
 have hL:=B.len
 have hx:R[t]? = some R[t]:=List.getElem?_eq_getElem ht
 have hstep:=nF B hx
 have hn:=bH ht
 have kB:=B.gj _ _ hx
 have hnb:=B.nb _ _ hx
 have hnp:=B.np _ _ hx
 have hlb:=bk R.length _ hnb fun x hx=>⟨(kB x (.inl hx)).1,(kB x (.inl hx)).2.1⟩
 have hlp:=bk R.length _ hnp fun x hx=>⟨(kB x (.inr hx)).1,(kB x (.inr hx)).2.1⟩
 generalize R[t]=x at *
 have mL:t<PU.length:=by rw[hM0.kl];exact ht
 have hkn:=Kh mL
 cases hk:PU[t] with
 | true =>
  obtain⟨o,ho,_⟩:=hM0.ok t ht hk
  rw[hk] at hkn
  rw[ho]
  refine fb Tryz.func136 Tryz.ntmps136 [.tmp 6] fun w0 I0 F0 hF=>?_
  repeat first|refine n1 ?_|(first|refine rg 0 [0,1,2] [0,1,2] [] ?_|refine rg 1 [0,1,2] [0,1,2,23] [] ?_|refine rg 2 [] [6] [] ?_|refine nc ?_);simp[hF,dR,dO,hkn,mL]
  (try refine nr ?_);(repeat first|refine aF ?_|refine aG ?_);refine ak.o [6] [0,1] [(1,[.d])] ?_;simp[hF,an,aa,ah,dR,dO]
  exact⟨PU,VE,hM0,qS.refl _,⟨rfl,rfl⟩,by rw[List.getElem?_eq_getElem mL,hk]⟩
 | false =>
  rw[hk] at hkn
  refine fb Tryz.func136 Tryz.ntmps136 [.tmp 6] fun w0 I0 F0 hF=>?_
  repeat first|refine n1 ?_|refine n2 ?_|refine n3 ?_|(first|refine rg 0 [0,1,2] [0,1,2] [] ?_|refine rg 1 [0,1,2] [0,1,2,23] [] ?_|refine rg 3 [0,1,2] [0,1,2,7] [] ?_|refine rg 4 [0,1,2,7] [0,1,2,7,8,9] [] ?_|refine rg 5 [0,1,2,7,8,9] [0,1,2,7,8,9,10] [] ?_|refine nc ?_);simp[hF,dR,dO,hkn,mL,hn,ht]
  have FR:∀u∈x.bU,0≤u∧u<R.length∧r u<n:=fun u hu=>by have:=kB u (.inl hu);omega
  have zV:∀u∈parents x,0≤u∧u<R.length∧r u<n:=fun u hu=>by have:=kB u (.inr hu);omega
  refine VS.eT 8 1 (by simp) ?_
  refine VS.lp [(1,[.d])] (by simp[aa,ah]) ?_
  refine VS.pick [0,1,2,7,8,9,10] [0,1,2,3] (by simp[hF]) ?_;simp[hF]
  refine VS.rounds (fun m st=>∃(i:Nat) (acc:List (List Int)) (kn:List Bool) (gd:List (Bool×List Int)),i+m=x.bU.length∧acc.length=i∧(∀y∈acc,y.length≤1000∧∀v∈y,0≤v)∧jQ R kn gd∧qS PU kn∧bC (aE R) x.bU=(bC (aE R) (x.bU.drop i)).map (fun r=>acc++r) ∧
   st=⟨[(0,.ptr 0 [.d]),(1,.ptr 1 [.d]),(2,ag t),(7,.ptr 2 [.d]),(8,.sub 3 [] 0 i false),(9,.bE 1),(10,ag i)],[dR R,dO kn gd,U9 x,.sl true () 1 (iI acc)],[(1,[.d])],[]⟩)
   ⟨x.bU.length,0,[],PU,VE,by omega,rfl,(fun y hy=>by cases hy),hM0,qS.refl _,by simp,by simp[dR,dO,U9]⟩ ?_
  clear hkn hk mL hM0
  rintro m st ⟨i,acc,kn,gd,hi,Zt,hacc,hM,hmo,iK,rfl⟩
  repeat first|refine n1 ?_|(first|refine rg 6 [0,1,2,7,8,9,10] [0,1,2,7,8,9,10,35] [] ?_|refine nc ?_);simp[hF,U9]
  refine⟨fun hlt=>?_,fun hge=>?_⟩
  ·have hil:i<x.bU.length:=by omega
   have hbn:=bP hil
   obtain⟨u0,u1,u2⟩:=FR _ (List.getElem_mem hil)
   have vH:=List.drop_eq_getElem_cons hil
   rw[vH,mE] at iK
   repeat first|refine n1 ?_|refine n2 ?_|refine n3 ?_|refine rg 8 [0,1,2,7,8,9,10] [0,1,2,7,8,9,10,46] [] ?_;simp[hF,hbn,hil]
   generalize x.bU[i]=u at *
   obtain⟨u,rfl⟩:∃k:Nat,u=k:=⟨u.toNat,by omega⟩
   have FQ:u<R.length:=by omega
   cases ho:aE R u with
   | none =>
    rw[ho] at iK
    have Zu:bn (aE R) x.bU=none:=by unfold bn;rw[iK];rfl
    rw[Zu] at hstep
    simp only at hstep
    rw[hstep]
    refine(hfind.no FQ u2 hM ho).go [(0,[]),(1,[])] (by simp[hF,dR,dO]) ?_;rintro av X κ ⟨kn,gd,hM,Ga,rfl,rfl,rfl⟩;simp[hF,dR,dO]
    have hmo:=hmo.trans Ga
    repeat first|refine n1 ?_|(first|refine rg 9 [] [6] [] ?_|refine nc ?_);simp[hF]
    (try refine nr ?_);(repeat first|refine aF ?_|refine aG ?_);refine ak.o [6] [0,1] [(1,[.d])] ?_;simp[hF,an,aa,ah,dR,dO]
    exact⟨kn,gd,hM,hmo,rfl,rfl⟩
   | some o =>
    rw[ho] at iK
    have va:=dW B FQ ho
    have hos:=jw B FQ ho
    have dD:=mN acc o
    have b1:(acc.length+1)*24≤140737488355328:=by omega
    have b2:acc.length+1≤9223372036854775807:=by omega
    refine(hfind.yes FQ u2 hM ho).go [(0,[]),(1,[])] (by simp[hF,dR,dO]) ?_;rintro av X κ ⟨kn,gd,hM,Ga,hnl,rfl,rfl,rfl⟩;simp[hF,dR,dO]
    have hmo:=hmo.trans Ga
    have ZE:u<gd.length:=by rw[hM.ll];exact FQ
    subst Zt
    repeat first|refine n2 ?_|refine n4 ?_|refine n5 ?_|(first|(refine dr 10 0 [0,1,2,7,8,9,10] [0,1,2,7,8,9,10] [] [⟨0,256,140737488355328,5⟩,⟨0,2,281474976710656,5⟩,⟨2,281474976710656,562949953421312,5⟩,⟨4,562949953421312,1125899906842624,5⟩,⟨8,1125899906842624,2251799813685248,6⟩,⟨0,128,4503599627370496,5⟩,⟨32,4503599627370496,9007199254740992,6⟩,⟨0,1024,18014398509481984,5⟩,⟨192,27021597764222976,36028797018963968,5⟩,⟨256,36028797018963968,72057594037927936,6⟩,⟨528,74309393851613184,144115188075855872,5⟩,⟨1024,144115188075855872,288230376151711744,6⟩,⟨2048,288230376151711744,576460752303423488,4⟩,⟨4097,576601489791778816,1152921504606846976,0⟩,⟨16383,1152921504606846976,256,5⟩] (.take 0 (.take 1 (.take 2 (.take 3 (.take 4 (.take 5 (.take 6 (.take 7 (.take 8 (.take 9 (.take 10 (.take 11 (.fork (.alt 12 (.fork (.alt 13 (.take 14 (.done)) (.nil))) (.nil))))))))))))))) (.run [0,1,2,3,4,5,6,7,8,9,10,11,12,13,14] (.done)) ?_;simp only[nD])|refine nc ?_);simp[hF,hbn,hil,hnl,ZE,dD,b1,b2]
    refine VS.lp [(1,[.d])] (by simp[aa,ah]) ?_
    repeat first|refine n4 ?_|refine n6 ?_|refine rg 7 [0,1,2,7,8,9,10] [0,1,2,7,8,9,10] [] ?_;simp[hF]
    refine aO.of [0,1,2,7,8,9,10] [0,1,2,3] (m-1) (by omega) (by simp[hF]) ?_
    refine⟨acc.length+1,acc++[o],kn,gd,by omega,by simp,fun y hy=>?_,hM,hmo,?_,?_⟩
    ·rcases List.mem_append.1 hy with hy|hy
     ·exact hacc y hy
     ·simp only[List.mem_singleton] at hy;subst hy;exact⟨va,fun v hv=>(hos.2.2 v hv).1⟩
    ·rw[iK];simp[Option.map_map,Function.comp_def]
    ·simp[dR,dO,U9]
     exact IntWalk.i64_in _ (by omega)
  ·obtain rfl:i=x.bU.length:=by omega
   have Qc:bC (aE R) x.bU=some acc:=by rw[iK,List.drop_length];simp[bC]
   clear iK
   have hil:x.ins.length≤R.length:=by
    have:x.ins.length≤(parents x).length:=by simp[parents]
    omega
   have c1:x.ins.length*8≤140737488355328:=by omega
   have c2:x.ins.length≤9223372036854775807:=by omega
   apply merged
   ·intro key
    by_cases hs:0≤x.sup
    ·have hpar:parents x=x.ins++[x.sup]:=by simp[parents,hs]
     have dD:=fK x.ins x.sup
     have b1:(x.ins.length+1)*8≤140737488355328:=by omega
     have b2:x.ins.length+1≤9223372036854775807:=by omega
     have hmid:(aj (x.ins++[x.sup])).mid 0 (x.ins.length+1)=aj (x.ins++[x.sup]):=aV _ _ (by simp)
     repeat first|refine n1 ?_|refine n7 ?_|(first|refine rg 11 [0,1,2,7,8,9] [0,1,2,7,8,9,11] [] ?_|refine rg 12 [0,1,2,7,8,9,11] [0,1,2,7,8,9,11,67] [] ?_|refine rg 13 [0,1,2,7,8,9,11] [0,1,2,7,8,9,11] [] ?_|refine nc ?_);simp[hF,hs,dD,b1,b2,c1,c2]
     refine VS.fl 11 (by simp[hF,hmid]) ?_;simp[hF,St.fl,hmid]
     rw[←hpar]
     refine VS.pick [0,1,2,7,8,9,11] [0,1,2,3] (by simp[hF]) ?_;simp[hF]
     exact key ()
    ·have hpar:parents x=x.ins:=by simp[parents,hs]
     repeat first|refine n1 ?_|refine n2 ?_|refine n7 ?_|(first|refine rg 11 [0,1,2,7,8,9] [0,1,2,7,8,9,11] [] ?_|refine rg 12 [0,1,2,7,8,9,11] [0,1,2,7,8,9,11,67] [] ?_|refine nc ?_);simp[hF,hs,c1,c2]
     refine VS.fl 11 (by simp[hF]) ?_;simp[hF,St.fl]
     refine VS.pick [0,1,2,7,8,9,11] [0,1,2,3] (by simp[hF]) ?_;simp[hF]
     have hk:=key ()
     rw[hpar] at hk
     exact hk
   repeat first|refine n3 ?_|refine rg 14 [0,1,2,7,8,9,11] [0,1,2,7,8,9,11,12] [] ?_;simp[hF]
   refine VS.eT 9 1 (by simp) ?_
   refine VS.lp [(1,[.d])] (by simp[aa,ah]) ?_
   refine VS.pick [0,1,2,7,8,9,11,12] [0,1,2,3,4] (by simp[hF]) ?_;simp[hF]
   refine VS.rounds (fun m st=>∃(i:Nat) (mF:List (List Int)) (kn:List Bool) (gd:List (Bool×List Int)),i+m=(parents x).length∧mF.length=i∧(∀y∈mF,y.length≤1000∧∀v∈y,0≤v)∧jQ R kn gd∧qS PU kn∧bC (aE R) (parents x)=(bC (aE R) ((parents x).drop i)).map (fun r=>mF++r) ∧
    st=⟨[(0,.ptr 0 [.d]),(1,.ptr 1 [.d]),(2,ag t),(7,.ptr 2 [.d]),(8,.sub 3 [] 0 x.bU.length false),(9,.sub 4 [] 0 i false),(11,.cA 1 (aj (parents x)) false),(12,ag i)],[dR R,dO kn gd,U9 x,.sl true () 1 (iI acc),.sl true () 1 (iI mF)],[(1,[.d])],[]⟩)
    ⟨(parents x).length,0,[],kn,gd,by omega,rfl,(fun y hy=>by cases hy),hM,hmo,by simp,by simp[U9]⟩ ?_
   clear hM hmo hi m
   rintro m st ⟨i,mF,kn,gd,hi,ZF,Yu,hM,hmo,iK,rfl⟩
   repeat first|refine n1 ?_|(first|refine rg 15 [0,1,2,7,8,9,11,12] [0,1,2,7,8,9,11,12,76] [] ?_|refine nc ?_);simp[hF,U9]
   refine⟨fun hlt=>?_,fun hge=>?_⟩
   ·have zS:i<(parents x).length:=by omega
    have hbn:=bP zS
    obtain⟨u0,u1,u2⟩:=zV _ (List.getElem_mem zS)
    have vH:=List.drop_eq_getElem_cons zS
    rw[vH,mE] at iK
    repeat first|refine n1 ?_|refine n2 ?_|refine n3 ?_|refine rg 17 [0,1,2,7,8,9,11,12] [0,1,2,7,8,9,11,12,86] [] ?_;simp[hF,hbn,zS]
    generalize (parents x)[i]=u at *
    obtain⟨u,rfl⟩:∃k:Nat,u=k:=⟨u.toNat,by omega⟩
    have FQ:u<R.length:=by omega
    cases ho:aE R u with
    | none =>
     rw[ho] at iK
     have Zu:bn (aE R) (parents x)=none:=by unfold bn;rw[iK];rfl
     have hnone:aE R t=none:=by
      rw[hstep,Zu]
      cases bn (aE R) x.bU<;>rfl
     rw[hnone]
     refine(hfind.no FQ u2 hM ho).go [(0,[]),(1,[])] (by simp[hF,dR,dO]) ?_;rintro av X κ ⟨kn,gd,hM,Ga,rfl,rfl,rfl⟩;simp[hF,dR,dO]
     have hmo:=hmo.trans Ga
     repeat first|refine n1 ?_|(first|refine rg 18 [] [6] [] ?_|refine nc ?_);simp[hF]
     (try refine nr ?_);(repeat first|refine aF ?_|refine aG ?_);refine ak.o [6] [0,1] [(1,[.d])] ?_;simp[hF,an,aa,ah,dR,dO]
     exact⟨kn,gd,hM,hmo,rfl,rfl⟩
    | some o =>
     rw[ho] at iK
     have va:=dW B FQ ho
     have hos:=jw B FQ ho
     have dD:=mN mF o
     have b1:(mF.length+1)*24≤140737488355328:=by omega
     have b2:mF.length+1≤9223372036854775807:=by omega
     refine(hfind.yes FQ u2 hM ho).go [(0,[]),(1,[])] (by simp[hF,dR,dO]) ?_;rintro av X κ ⟨kn,gd,hM,Ga,hnl,rfl,rfl,rfl⟩;simp[hF,dR,dO]
     have hmo:=hmo.trans Ga
     have ZE:u<gd.length:=by rw[hM.ll];exact FQ
     subst ZF
     repeat first|refine n2 ?_|refine n4 ?_|refine n5 ?_|(first|(refine dr 19 0 [0,1,2,7,8,9,11,12] [0,1,2,7,8,9,11,12] [] [⟨0,512,154742504910672534362390528,5⟩,⟨0,2,309485009821345068724781056,5⟩,⟨2,309485009821345068724781056,618970019642690137449562112,5⟩,⟨4,618970019642690137449562112,1237940039285380274899124224,5⟩,⟨8,1237940039285380274899124224,2475880078570760549798248448,6⟩,⟨0,2048,4951760157141521099596496896,5⟩,⟨0,4096,9903520314283042199192993792,5⟩,⟨96,14855280471424563298789490688,19807040628566084398385987584,5⟩,⟨128,19807040628566084398385987584,39614081257132168796771975168,6⟩,⟨272,42089961335702929346570223616,79228162514264337593543950336,5⟩,⟨512,79228162514264337593543950336,158456325028528675187087900672,6⟩,⟨1024,158456325028528675187087900672,316912650057057350374175801344,4⟩,⟨2049,317067392561968022908538191872,633825300114114700748351602688,0⟩,⟨8191,633825300114114700748351602688,512,5⟩] (.take 0 (.take 1 (.take 2 (.take 3 (.take 4 (.take 5 (.take 6 (.take 7 (.take 8 (.take 9 (.take 10 (.fork (.alt 11 (.fork (.alt 12 (.take 13 (.done)) (.nil))) (.nil)))))))))))))) (.run [0,1,2,3,4,5,6,7,8,9,10,11,12,13] (.done)) ?_;simp only[nD])|refine nc ?_);simp[hF,hbn,zS,hnl,ZE,dD,b1,b2]
     refine VS.lp [(1,[.d])] (by simp[aa,ah]) ?_
     repeat first|refine n4 ?_|refine n6 ?_|refine rg 16 [0,1,2,7,8,9,11,12] [0,1,2,7,8,9,11,12] [] ?_;simp[hF]
     refine aO.of [0,1,2,7,8,9,11,12] [0,1,2,3,4] (m-1) (by omega) (by simp[hF]) ?_
     refine⟨mF.length+1,mF++[o],kn,gd,by omega,by simp,fun y hy=>?_,hM,hmo,?_,?_⟩
     ·rcases List.mem_append.1 hy with hy|hy
      ·exact Yu y hy
      ·simp only[List.mem_singleton] at hy;subst hy;exact⟨va,fun v hv=>(hos.2.2 v hv).1⟩
     ·rw[iK];simp[Option.map_map,Function.comp_def]
     ·simp[dR,dO,U9]
      exact IntWalk.i64_in _ (by omega)
   ·obtain rfl:i=(parents x).length:=by omega
    have ac9:bC (aE R) (parents x)=some mF:=by rw[iK,List.drop_length];simp[bC]
    clear iK
    have mg:∀(aL:List Int) (a:List (List Int)),bC (aE R) aL=some a→(∀y∈a,y.length≤1000∧∀v∈y,0≤v)→(∀u∈aL,0≤u∧u<R.length∧r u<n)→aL.length≤1000→a.length=aL.length→bn (aE R) aL=fJ (a++[aL]) ∧
      (a++[aL]).length=aL.length+1∧(a++[aL]).length≤10000∧total (a++[aL])≤100000000∧∀y∈a++[aL],∀v∈y,0≤v:=by
     intro aL a h1 h2 h3 h4 h5
     have h6:∀y∈a++[aL],y.length≤1000∧∀v∈y,0≤v:=fun y hy=>by
      rcases List.mem_append.1 hy with hy|hy
      ·exact h2 y hy
      ·simp only[List.mem_singleton] at hy;subst hy;exact⟨h4,fun v hv=>(h3 v hv).1⟩
     have h7:(a++[aL]).length=aL.length+1:=by simp[h5]
     have h8:=uu fun y hy=>(h6 y hy).1
     exact⟨by unfold bn;rw[h1];rfl,h7,by omega,by omega,fun y hy=>(h6 y hy).2⟩
    obtain⟨f1,f2,f3,f4,f5⟩:=mg x.bU acc Qc hacc FR (by omega) Zt
    obtain⟨g1,g2,g3,g4,g5⟩:=mg (parents x) mF ac9 Yu zV (by omega) ZF
    have uq:=CN (acc++[x.bU]) f3 f4 f5
    have hm2:=CN (mF++[parents x]) g3 g4 g5
    rw[f2,←f1] at uq
    rw[g2,←g1] at hm2
    have ada:=mN acc x.bU
    have adb:=mN mF (parents x)
    have b1:(x.bU.length+1)*24≤140737488355328:=by omega
    have b2:x.bU.length+1≤9223372036854775807:=by omega
    have d1:((parents x).length+1)*24≤140737488355328:=by omega
    have d2:(parents x).length+1≤9223372036854775807:=by omega
    have hq1:(iI acc).mid 0 x.bU.length=iI acc:=by rw[←Zt];exact um acc
    have hq2:(iI mF).mid 0 (parents x).length=iI mF:=by rw[←ZF];exact um mF
    repeat first|refine n1 ?_|refine n7 ?_|refine rg 20 [1,2,7,8,9,11] [1,2,9,11,13,14] [] ?_;simp[hF,ada,b1,b2,hq1]
    cases hf:bn (aE R) x.bU with
    | none =>
     rw[hf] at hstep uq
     simp only at hstep uq
     rw[hstep]
     refine(uq).go [(3,[])] (by simp[hF,kJ]) ?_;rintro av X κ ⟨rfl,rfl,rfl⟩;simp[hF,kJ]
     repeat first|refine n1 ?_|(first|refine rg 21 [1,2,9,11,13,14] [1,2,9,11,13,110] [] ?_|refine rg 22 [] [6] [] ?_|refine nc ?_);simp[hF]
     (try refine nr ?_);(repeat first|refine aF ?_|refine aG ?_);refine ak.o [6] [0,1] [(1,[.d])] ?_;simp[hF,an,aa,ah,dR,dO]
     exact⟨kn,gd,hM,hmo,rfl,rfl⟩
    | some front =>
     rw[hf] at hstep uq
     simp only at hstep uq
     obtain⟨fn1,fn2,fn3⟩:=lg B (fun u hu=>⟨(FR u hu).1,(FR u hu).2.1⟩) hnb hf
     refine(uq).go [(3,[])] (by simp[hF,kJ]) ?_;rintro av X κ ⟨rfl,rfl,rfl⟩;simp[hF,kJ]
     refine VS.pick [1,2,9,11,13,14] [0,1,4,6] (by simp[hF]) ?_;simp[hF]
     repeat first|refine n1 ?_|refine n2 ?_|(first|refine rg 21 [1,2,9,11,13,14] [1,2,9,11,13,110] [] ?_|refine rg 23 [1,2,9,11,13] [1,2,13,15,16] [] ?_|refine nc ?_);simp[hF,adb,d1,d2,hq2]
     cases hb:bn (aE R) (parents x) with
     | none =>
      rw[hb] at hstep hm2
      simp only at hstep hm2
      rw[hstep]
      refine(hm2).go [(2,[])] (by simp[hF,kJ]) ?_;rintro av X κ ⟨rfl,rfl,rfl⟩;simp[hF,kJ]
      repeat first|refine n1 ?_|(first|refine rg 24 [1,2,13,15,16] [1,2,13,15,120] [] ?_|refine rg 25 [] [6] [] ?_|refine nc ?_);simp[hF]
      (try refine nr ?_);(repeat first|refine aF ?_|refine aG ?_);refine ak.o [6] [0,1] [(1,[.d])] ?_;simp[hF,an,aa,ah,dR,dO]
      exact⟨kn,gd,hM,hmo,rfl,rfl⟩
     | some behind =>
      rw[hb] at hstep hm2
      simp only at hstep hm2
      obtain⟨bn1,bn2,bn3⟩:=lg B (fun u hu=>⟨(zV u hu).1,(zV u hu).2.1⟩) hnp hb
      refine(hm2).go [(2,[])] (by simp[hF,kJ]) ?_;rintro av X κ ⟨rfl,rfl,rfl⟩;simp[hF,kJ]
      refine VS.lp [(1,[.d]),(3,[.d,.d,.d])] (by simp[aa,ah]) ?_
      have oT:=fK front t
      have tg:(aj (front++[(t:Int)])).mid 0 front.length=aj front:=by rw[ju];simp
      have e1:(front.length+1)*8≤140737488355328:=by omega
      have e2:front.length+1≤9223372036854775807:=by omega
      have fW:t<gd.length:=by rw[hM.ll];exact ht
      have hwl:(bA behind front).length≤1000:=by
       have:(bA behind front).length≤behind.length:=by unfold bA;exact List.length_filter_le _ _
       omega
      have ZG:aE R t=some (front++[(t:Int)]++bA behind front):=hstep
      have oU:=kS (front++[(t:Int)]) (bA behind front)
      generalize hw:bA behind front=w at *
      have w1:(front.length+1+w.length)*8≤140737488355328:=by omega
      have w2:front.length+1+w.length≤9223372036854775807:=by omega
      have hfull:front++[(t:Int)]++w=front++(t:Int)::w:=by simp
      rw[hfull] at ZG oU
      have FL:((rM gd).nth t).width=1:=by rw[pR fW];rfl
      have yU:(aj (front++(t:Int)::w)).mid 0 (front.length+1+w.length)=aj (front++(t:Int)::w):=aV _ _ (by simp;omega)
      have kC:=Ki gd t true (front++(t:Int)::w)
      have ef:(rM (gd.set t (true,front++(t:Int)::w))).nth t=.sl true () 1 (aj (front++(t:Int)::w)):=by rw[pR (by simpa using fW)];simp
      have dP:=Ki (gd.set t (true,front++(t:Int)::w)) t false (front++(t:Int)::w)
      rw[List.set_set] at dP
      have mL:t<kn.length:=by rw[hM.kl];exact ht
      have uz:=VD kn t true
      have CO:=Kh mL
      have oV:∃vf oS,jQ R vf oS∧qS PU vf∧(F8 (kn.set t true)=F8 vf∧rM (gd.set t (false,front++(t:Int)::w))=rM oS)∧vf[t]? = some true:=by
       refine⟨_,_,⟨by simpa using hM.kl,by simpa using hM.ll,fun i hi hk=>?_⟩,fun j hj=>?_,⟨rfl,rfl⟩,by simp[mL]⟩
       ·by_cases hit:t=i
        ·subst hit
         exact⟨_,ZG,by simp⟩
        ·simp only[List.getElem_set_ne hit] at hk ⊢
         exact hM.ok i hi hk
       ·have:=hmo j hj
        by_cases hjt:t=j
        ·subst hjt;simp[mL]
        ·rw[List.getElem?_set_ne hjt];exact this
      rw[ZG]
      repeat first|refine n1 ?_|refine n2 ?_|(first|refine rg 24 [1,2,13,15,16] [1,2,13,15,120] [] ?_|(refine dr 26 0 [1,2,13,15] [1,2] [] [⟨0,2,2658455991569831745807614120560689152,5⟩,⟨1,2658455991569831745807614120560689152,5316911983139663491615228241121378304,5⟩,⟨2,5316911983139663491615228241121378304,10633823966279326983230456482242756608,5⟩,⟨4,10633823966279326983230456482242756608,21267647932558653966460912964485513216,6⟩,⟨0,4,42535295865117307932921825928971026432,5⟩,⟨0,8192,85070591730234615865843651857942052864,5⟩,⟨0,4,170141183460469231731687303715884105728,5⟩,⟨64,170141183460469231731687303715884105728,340282366920938463463374607431768211456,4⟩,⟨160,425352958651173079329218259289710264320,680564733841876926926749214863536422912,0⟩,⟨0,32768,1361129467683753853853498429727072845824,5⟩,⟨0,8192,2722258935367507707706996859454145691648,5⟩,⟨1792,4083388403051261561560495289181218537472,5444517870735015415413993718908291383296,0⟩,⟨2304,6125082604576892342340742933771827806208,10889035741470030830827987437816582766592,0⟩,⟨8191,63802943797675961899382738893456539648,21778071482940061661655974875633165533184,5⟩,⟨16383,32667107224410092492483962313449748299776,0,0⟩] (.take 0 (.take 1 (.take 2 (.take 4 (.take 5 (.take 6 (.take 9 (.take 10 (.fork (.alt 3 (.fork (.alt 7 (.fork (.alt 8 (.fork (.alt 11 (.fork (.alt 12 (.take 13 (.fork (.alt 14 (.done) (.nil)))) (.nil))) (.nil))) (.nil))) (.nil))) (.alt 7 (.fork (.alt 3 (.fork (.alt 8 (.fork (.alt 11 (.fork (.alt 12 (.take 13 (.fork (.alt 14 (.done) (.nil)))) (.nil))) (.nil))) (.nil))) (.alt 8 (.fork (.alt 3 (.fork (.alt 11 (.fork (.alt 12 (.take 13 (.fork (.alt 14 (.done) (.nil)))) (.nil))) (.nil))) (.alt 11 (.fork (.alt 3 (.fork (.alt 12 (.take 13 (.fork (.alt 14 (.done) (.nil)))) (.nil))) (.alt 12 (.take 3 (.take 13 (.fork (.alt 14 (.done) (.nil))))) (.nil)))) (.nil)))) (.nil)))) (.nil)))))))))))) (.run [0,1,2,4,5,6,9,10] (.both (.run [3,7,8,11,12,13,14] (.done)) (.run [7] (.both (.run [3,8,11,12,13,14] (.done)) (.run [8] (.both (.run [3,11,12,13,14] (.done)) (.run [11] (.both (.run [3,12,13,14] (.done)) (.run [12,3,13,14] (.done)))))))))) ?_;simp only[nD])|refine nc ?_);simp[hF,dO,oT,tg,e1,e2,fW]
      repeat' apply And.intro
      ·refine(gu false false behind front [] (by omega) (by omega)).go [(3,[]),(5,[])] (by simp[hF,dR,dO,hw,oU,w1,w2,fW,tg,kC,oT,FL,yU]) ?_;rintro av X κ ⟨rfl,rfl,rfl⟩;simp[hF,dR,dO,hw,oU,w1,w2,fW,tg,kC,oT,FL,yU]
       repeat refine n1 ?_
       refine VS.er 1 [.d,.f 1,.i t] (by simp[hF,T.freeze,fW,ef,dP]) (by simp[hF,T.freeze,fW,ef,dP]) (by simp[hF,T.freeze,fW,ef,dP]) ?_;simp[hF,St.er,T.freeze,fW,ef,dP]
       refine VS.oW [(1,[.d,.f 1,.i t]),(1,[.d,.f 1,.i t]),(1,[.d])] (by simp[hF]) ?_
       repeat first|refine n1 ?_|(first|refine rg 27 [1,2] [] [] ?_|refine rg 28 [] [6] [] ?_);simp[hF,mL,uz,CO]
       (try refine nr ?_);(repeat first|refine aF ?_|refine aG ?_);refine ak.o [6] [0,1] [(1,[.d])] ?_;simp[hF,an,aa,ah,dR,dO]
       exact oV
      ·refine(gu false false behind front [(t:Int)] (by omega) (by omega)).go [(3,[]),(5,[])] (by simp[hF,dR,dO,hw,oU,w1,w2,fW,tg,kC,oT,FL,yU]) ?_;rintro av X κ ⟨rfl,rfl,rfl⟩;simp[hF,dR,dO,hw,oU,w1,w2,fW,tg,kC,oT,FL,yU]
       repeat refine n1 ?_
       refine VS.er 1 [.d,.f 1,.i t] (by simp[hF,T.freeze,fW,ef,dP]) (by simp[hF,T.freeze,fW,ef,dP]) (by simp[hF,T.freeze,fW,ef,dP]) ?_;simp[hF,St.er,T.freeze,fW,ef,dP]
       refine VS.oW [(1,[.d,.f 1,.i t]),(1,[.d,.f 1,.i t]),(1,[.d])] (by simp[hF]) ?_
       repeat first|refine n1 ?_|(first|refine rg 27 [1,2] [] [] ?_|refine rg 28 [] [6] [] ?_);simp[hF,mL,uz,CO]
       (try refine nr ?_);(repeat first|refine aF ?_|refine aG ?_);refine ak.o [6] [0,1] [(1,[.d])] ?_;simp[hF,an,aa,ah,dR,dO]
       exact oV
      ·refine(gu false false behind front [] (by omega) (by omega)).go [(3,[]),(5,[])] (by simp[hF,dR,dO,hw,oU,w1,w2,fW,tg,kC,oT,FL,yU]) ?_;rintro av X κ ⟨rfl,rfl,rfl⟩;simp[hF,dR,dO,hw,oU,w1,w2,fW,tg,kC,oT,FL,yU]
       repeat refine n1 ?_
       refine VS.er 1 [.d,.f 1,.i t] (by simp[hF,T.freeze,fW,ef,dP]) (by simp[hF,T.freeze,fW,ef,dP]) (by simp[hF,T.freeze,fW,ef,dP]) ?_;simp[hF,St.er,T.freeze,fW,ef,dP]
       refine VS.oW [(1,[.d,.f 1,.i t]),(1,[.d,.f 1,.i t]),(1,[.d])] (by simp[hF]) ?_
       repeat first|refine n1 ?_|(first|refine rg 27 [1,2] [] [] ?_|refine rg 28 [] [6] [] ?_);simp[hF,mL,uz,CO]
       (try refine nr ?_);(repeat first|refine aF ?_|refine aG ?_);refine ak.o [6] [0,1] [(1,[.d])] ?_;simp[hF,an,aa,ah,dR,dO]
       exact oV
      ·refine(gu false false behind front [(t:Int)] (by omega) (by omega)).go [(3,[]),(5,[])] (by simp[hF,dR,dO,hw,oU,w1,w2,fW,tg,kC,oT,FL,yU]) ?_;rintro av X κ ⟨rfl,rfl,rfl⟩;simp[hF,dR,dO,hw,oU,w1,w2,fW,tg,kC,oT,FL,yU]
       repeat refine n1 ?_
       refine VS.er 1 [.d,.f 1,.i t] (by simp[hF,T.freeze,fW,ef,dP]) (by simp[hF,T.freeze,fW,ef,dP]) (by simp[hF,T.freeze,fW,ef,dP]) ?_;simp[hF,St.er,T.freeze,fW,ef,dP]
       refine VS.oW [(1,[.d,.f 1,.i t]),(1,[.d,.f 1,.i t]),(1,[.d])] (by simp[hF]) ?_
       repeat first|refine n1 ?_|(first|refine rg 27 [1,2] [] [] ?_|refine rg 28 [] [6] [] ?_);simp[hF,mL,uz,CO]
       (try refine nr ?_);(repeat first|refine aF ?_|refine aG ?_);refine ak.o [6] [0,1] [(1,[.d])] ?_;simp[hF,an,aa,ah,dR,dO]
       exact oV
      ·refine(gu false false behind front [] (by omega) (by omega)).go [(3,[]),(5,[])] (by simp[hF,dR,dO,hw,oU,w1,w2,fW,tg,kC,oT,FL,yU]) ?_;rintro av X κ ⟨rfl,rfl,rfl⟩;simp[hF,dR,dO,hw,oU,w1,w2,fW,tg,kC,oT,FL,yU]
       repeat refine n1 ?_
       refine VS.er 1 [.d,.f 1,.i t] (by simp[hF,T.freeze,fW,ef,dP]) (by simp[hF,T.freeze,fW,ef,dP]) (by simp[hF,T.freeze,fW,ef,dP]) ?_;simp[hF,St.er,T.freeze,fW,ef,dP]
       refine VS.oW [(1,[.d,.f 1,.i t]),(1,[.d,.f 1,.i t]),(1,[.d])] (by simp[hF]) ?_
       repeat first|refine n1 ?_|(first|refine rg 27 [1,2] [] [] ?_|refine rg 28 [] [6] [] ?_);simp[hF,mL,uz,CO]
       (try refine nr ?_);(repeat first|refine aF ?_|refine aG ?_);refine ak.o [6] [0,1] [(1,[.d])] ?_;simp[hF,an,aa,ah,dR,dO]
       exact oV
      ·refine(gu false false behind front [] (by omega) (by omega)).go [(3,[]),(5,[])] (by simp[hF,dR,dO,hw,oU,w1,w2,fW,tg,kC,oT,FL,yU]) ?_;rintro av X κ ⟨rfl,rfl,rfl⟩;simp[hF,dR,dO,hw,oU,w1,w2,fW,tg,kC,oT,FL,yU]
       repeat refine n1 ?_
       refine VS.er 1 [.d,.f 1,.i t] (by simp[hF,T.freeze,fW,ef,dP]) (by simp[hF,T.freeze,fW,ef,dP]) (by simp[hF,T.freeze,fW,ef,dP]) ?_;simp[hF,St.er,T.freeze,fW,ef,dP]
       refine VS.oW [(1,[.d,.f 1,.i t]),(1,[.d,.f 1,.i t]),(1,[.d])] (by simp[hF]) ?_
       repeat first|refine n1 ?_|(first|refine rg 27 [1,2] [] [] ?_|refine rg 28 [] [6] [] ?_);simp[hF,mL,uz,CO]
       (try refine nr ?_);(repeat first|refine aF ?_|refine aG ?_);refine ak.o [6] [0,1] [(1,[.d])] ?_;simp[hF,an,aa,ah,dR,dO]
       exact oV
      ·refine(gu false false behind front [(t:Int)] (by omega) (by omega)).go [(3,[]),(5,[])] (by simp[hF,dR,dO,hw,oU,w1,w2,fW,tg,kC,oT,FL,yU]) ?_;rintro av X κ ⟨rfl,rfl,rfl⟩;simp[hF,dR,dO,hw,oU,w1,w2,fW,tg,kC,oT,FL,yU]
       repeat refine n1 ?_
       refine VS.er 1 [.d,.f 1,.i t] (by simp[hF,T.freeze,fW,ef,dP]) (by simp[hF,T.freeze,fW,ef,dP]) (by simp[hF,T.freeze,fW,ef,dP]) ?_;simp[hF,St.er,T.freeze,fW,ef,dP]
       refine VS.oW [(1,[.d,.f 1,.i t]),(1,[.d,.f 1,.i t]),(1,[.d])] (by simp[hF]) ?_
       repeat first|refine n1 ?_|(first|refine rg 27 [1,2] [] [] ?_|refine rg 28 [] [6] [] ?_);simp[hF,mL,uz,CO]
       (try refine nr ?_);(repeat first|refine aF ?_|refine aG ?_);refine ak.o [6] [0,1] [(1,[.d])] ?_;simp[hF,an,aa,ah,dR,dO]
       exact oV
      ·refine(gu false false behind front [(t:Int)] (by omega) (by omega)).go [(3,[]),(5,[])] (by simp[hF,dR,dO,hw,oU,w1,w2,fW,tg,kC,oT,FL,yU]) ?_;rintro av X κ ⟨rfl,rfl,rfl⟩;simp[hF,dR,dO,hw,oU,w1,w2,fW,tg,kC,oT,FL,yU]
       repeat refine n1 ?_
       refine VS.er 1 [.d,.f 1,.i t] (by simp[hF,T.freeze,fW,ef,dP]) (by simp[hF,T.freeze,fW,ef,dP]) (by simp[hF,T.freeze,fW,ef,dP]) ?_;simp[hF,St.er,T.freeze,fW,ef,dP]
       refine VS.oW [(1,[.d,.f 1,.i t]),(1,[.d,.f 1,.i t]),(1,[.d])] (by simp[hF]) ?_
       repeat first|refine n1 ?_|(first|refine rg 27 [1,2] [] [] ?_|refine rg 28 [] [6] [] ?_);simp[hF,mL,uz,CO]
       (try refine nr ?_);(repeat first|refine aF ?_|refine aG ?_);refine ak.o [6] [0,1] [(1,[.d])] ?_;simp[hF,an,aa,ah,dR,dO]
       exact oV
theorem yV{R:List Th}{r:Int→Nat}(B:ez R r):∀n,pW R r n
 | 0=>fun _ _ h=>by omega
 | n+1=>fun t ht hr kn gd hM=>F9 B (yV B n) t ht hr kn gd hM
theorem CP{R:List Th}{r:Int→Nat}(B:ez R r)(t:Nat)(ht:t<R.length)(kn:List Bool)(gd:List (Bool×List Int))(hM:jQ R kn gd) :
  ai Tryz.prog 136 [dR R,dO kn gd] (.cons (.ptr 0 [.d]) (.cons (.ptr 1 [.d]) (.cons (ag t) .nil))) (Ad R t kn):=yV B (r t+1) t ht (by omega) kn gd hM
end Go.Proofs.YtbhigdljojlhnaaGreat

namespace Go.Proofs.YtbhigdljojlhnaaGreat
set_option linter.all false
open Go.Vc Go.Proofs
structure LR (L R:List Th):Prop where
 len:R.length=L.length
 th:∀t:Nat,t<L.length→(ax R t).kind=(ax L t).kind∧(ax R t).sup=(ax L t).sup∧(ax R t).obj=(ax L t).obj∧(ax R t).bU=(ax L t).bU∧(ax R t).ins=(ax L t).ins
 own:∀t i:Nat,t<L.length→i<L.length→((ax R i).kind=2∧(ax R i).own=t↔(ax L t).own=i)
 rng:∀i:Nat,i<L.length→(ax R i).kind=2→0≤(ax R i).own∧(ax R i).own<L.length
theorem LR.dX{L R:List Th}(h:LR L R)(t:Int):val R t=val L t:=by unfold val;rw[h.len]
theorem LR.same{L R:List Th}(h:LR L R)(t:Nat)(x:Th)(hx:L[t]? = some x):∃x',R[t]? = some x'∧x'.bU=x.bU∧parents x'=parents x:=by
 have ht:t<L.length:=(List.getElem?_eq_some_iff.1 hx).1
 have ht2:t<R.length:=by rw[h.len];exact ht
 obtain⟨h1,h2,h3,h4,h5⟩:=h.th t ht
 rw[lz hx] at h1 h2 h3 h4 h5
 have hr:R[t]? = some R[t]:=List.getElem?_eq_getElem ht2
 rw[lz hr] at h1 h2 h3 h4 h5
 exact⟨_,hr,h4,by unfold parents;rw[h5,h2]⟩
theorem LR.oO{L R:List Th}(h:LR L R)(W:uw L){t:Nat}(ht:t<L.length):aE R t=aE L t:=by
 obtain⟨r,B⟩:=W.base
 exact nG B h.same ht
theorem LR.rW{L R:List Th}(h:LR L R)(W:uw L){t:Nat}(ht:t<L.length):aP R t=aP L t:=by
 unfold aP;rw[h.oO W ht]
theorem LR.base{L R:List Th}(h:LR L R){r:Int→Nat}(B:ez L r):ez R r:=by
 have hb:∀(t:Nat) (y:Th),R[t]? = some y→∃x,L[t]? = some x∧y.bU=x.bU∧parents y=parents x:=fun t y hy=>by
  have ht2:t<R.length:=(List.getElem?_eq_some_iff.1 hy).1
  have ht:t<L.length:=by rw[←h.len];exact ht2
  obtain⟨x',q1,q2,q3⟩:=h.same t _ (List.getElem?_eq_getElem ht)
  rw[hy] at q1
  cases q1
  exact⟨_,List.getElem?_eq_getElem ht,q2,q3⟩
 refine⟨fun t y hy u hu=>?_,fun t y hy=>?_,fun t y hy=>?_,by rw[h.len];exact B.len⟩
 ·obtain⟨x,hx,e1,e2⟩:=hb t y hy
  rw[e1,e2] at hu
  rw[h.len]
  exact B.gj t x hx u hu
 ·obtain⟨x,hx,e1,e2⟩:=hb t y hy
  rw[e1];exact B.nb t x hx
 ·obtain⟨x,hx,e1,e2⟩:=hb t y hy
  rw[e2];exact B.np t x hx
theorem LR.wf{L R:List Th}(h:LR L R)(W:uw L):uw R:=by
 refine⟨W.base.elim fun r B=>⟨r,h.base B⟩,fun t ht=>?_⟩
 have ht':t<L.length:=by rw[←h.len];exact ht
 rw[h.oO W ht']
 exact W.full t ht'
theorem adf:LR L0 L0:=by
 have h0:∀t:Nat,t<L0.length→t=0:=fun t ht=>by simp[L0] at ht;omega
 refine⟨rfl,fun t ht=>⟨rfl,rfl,rfl,rfl,rfl⟩,fun t i ht hi=>?_,fun i hi=>?_⟩
 ·obtain rfl:=h0 t ht
  obtain rfl:=h0 i hi
  simp[ax,L0]
 ·obtain rfl:=h0 i hi
  simp[ax,L0]
theorem iU{L:List Th}{x:Th}{t:Nat}(h:t<L.length):ax (L++[x]) t=ax L t:=by
 rw[aQ (by simp;omega),aQ h,List.getElem_append_left h]
theorem mS{L:List Th}{x:Th}:ax (L++[x]) (L.length:Int)=x:=by
 rw[aQ (by simp)];simp
theorem LR.add{L R:List Th}(h:LR L R)(hL:OK L)(k s o:Int)(hk:k≠2):LR (L++[aU k s o]) (R++[aU k s o]):=by
 have hlen:=h.len
 have hnew:ax (R++[aU k s o]) (L.length:Int)=aU k s o:=by rw[←hlen];exact mS
 have hown:∀t:Nat,t<L.length→(ax L t).own<L.length:=fun t ht=>by
  by_cases h0:0≤(ax L t).own
  ·exact(hL.own t _ (mR (u:=(t:Int)) (by omega) (by omega)) h0).1
  ·omega
 refine⟨by simp[hlen],fun t ht=>?_,fun t i ht hi=>?_,fun i hi hk2=>?_⟩
 ·rw[List.length_append,List.length_singleton] at ht
  by_cases e:t=L.length
  ·subst e;rw[hnew,mS];exact⟨rfl,rfl,rfl,rfl,rfl⟩
  ·rw[iU (by omega),iU (by omega)];exact h.th t (by omega)
 ·rw[List.length_append,List.length_singleton] at ht hi
  by_cases e:i=L.length
  ·subst e
   rw[hnew]
   refine⟨fun hh=>absurd hh.1 hk,fun hh=>?_⟩
   by_cases e2:t=L.length
   ·subst e2;rw[mS] at hh;simp[aU] at hh
   ·rw[iU (by omega)] at hh
    have:=hown t (by omega);omega
  ·rw[iU (L:=R) (by omega)]
   by_cases e2:t=L.length
   ·subst e2
    rw[mS]
    refine⟨fun hh=>?_,fun hh=>by simp[aU] at hh⟩
    have:=h.rng i (by omega) hh.1
    omega
   ·rw[iU (by omega)];exact h.own t i (by omega) (by omega)
 ·rw[List.length_append,List.length_singleton] at hi ⊢
  by_cases e:i=L.length
  ·subst e;rw[hnew] at hk2;exact absurd hk2 hk
  ·rw[iU (by omega)] at hk2 ⊢
   have:=h.rng i (by omega) hk2
   exact⟨this.1,by push_cast;omega⟩
theorem LR.cls{L R:List Th}(h:LR L R)(hL:OK L)(s:Int):(bW R s).2=(bW L s).2∧LR (bW L s).1 (bW R s).1:=by
 have hk:(val R s&&decide ((ax R s).kind=0))=(val L s&&decide ((ax L s).kind=0)):=by
  rw[h.dX]
  cases hv:val L s with
  | false=>rfl
  | true =>
   obtain⟨s,rfl,hs⟩:=bD hv
   rw[(h.th s hs).1]
 unfold bW
 rw[hk,h.len]
 split
 ·exact⟨rfl,h⟩
 ·split
  ·exact⟨rfl,h⟩
  ·exact⟨rfl,h.add hL 0 s (-1) (by decide)⟩
theorem LR.mdl{L R:List Th}(h:LR L R)(hL:OK L):(bN R).2=(bN L).2∧LR (bN L).1 (bN R).1:=by
 unfold bN
 rw[h.len]
 split
 ·exact⟨rfl,h⟩
 ·split
  ·exact⟨rfl,h⟩
  ·exact⟨rfl,h.add hL 1 (-1) (-1) (by decide)⟩
theorem jR{L:List Th}{t:Nat}{x:Th}(ht:t<L.length)(k:Nat)(hk:k<L.length):ax (L.set t x) k=if k=t then x else ax L k:=by
 rw[aQ (by simpa using hk)]
 by_cases h:k=t
 ·subst h;simp
 ·rw[if_neg h,List.getElem_set_ne (Ne.symm h),aQ hk]
theorem LR.set{L R:List Th}(h:LR L R){t:Nat}(ht:t<L.length){x y:Th}(hx:y.kind=x.kind∧y.sup=x.sup∧y.obj=x.obj∧y.bU=x.bU∧y.ins=x.ins)
  (h1:x.own=(ax L t).own) (h2:y.own=(ax R t).own) (h3:y.kind=(ax R t).kind):LR (L.set t x) (R.set t y):=by
 have Gc:t<R.length:=by rw[h.len];exact ht
 refine⟨by simp[h.len],fun k hk=>?_,fun k i hk hi=>?_,fun i hi hk2=>?_⟩
 ·rw[List.length_set] at hk
  rw[jR Gc k (by rw[h.len];exact hk),jR ht k hk]
  by_cases e:k=t
  ·rw[if_pos e,if_pos e];exact hx
  ·rw[if_neg e,if_neg e];exact h.th k hk
 ·rw[List.length_set] at hk hi
  have e1:(ax (R.set t y) i).kind=(ax R i).kind∧(ax (R.set t y) i).own=(ax R i).own:=by
   rw[jR Gc i (by rw[h.len];exact hi)]
   by_cases e:i=t
   ·subst e;rw[if_pos rfl];exact⟨h3,h2⟩
   ·rw[if_neg e];exact⟨rfl,rfl⟩
  have e2:(ax (L.set t x) k).own=(ax L k).own:=by
   rw[jR ht k hk]
   by_cases e:k=t
   ·subst e;rw[if_pos rfl];exact h1
   ·rw[if_neg e]
  rw[e1.1,e1.2,e2]
  exact h.own k i hk hi
 ·rw[List.length_set] at hi ⊢
  rw[jR Gc i (by rw[h.len];exact hi)] at hk2 ⊢
  by_cases e:i=t
  ·subst e
   rw[if_pos rfl] at hk2 ⊢
   rw[h2]
   exact h.rng i hi (by rw[←h3];exact hk2)
  ·rw[if_neg e] at hk2 ⊢
   exact h.rng i hi hk2
theorem LR.CQ{L R:List Th}(h:LR L R){t:Nat}(ht:t<L.length)(l:List Int):LR (de L t l) (de R t l):=by
 have Gc:t<R.length:=by rw[h.len];exact ht
 obtain⟨h1,h2,h3,h4,h5⟩:=h.th t ht
 rw[aQ ht,aQ Gc] at h1 h2 h3 h4 h5
 rw[lq ht,lq Gc]
 exact h.set ht ⟨h1,h2,h3,h4,rfl⟩ (by rw[aQ ht]) (by rw[aQ Gc]) (by rw[aQ Gc])
theorem LR.CR{L R:List Th}(h:LR L R){t:Nat}(ht:t<L.length)(l:List Int):LR (cH L t l) (cH R t l):=by
 have Gc:t<R.length:=by rw[h.len];exact ht
 obtain⟨h1,h2,h3,h4,h5⟩:=h.th t ht
 rw[aQ ht,aQ Gc] at h1 h2 h3 h4 h5
 rw[lu ht,lu Gc]
 exact h.set ht ⟨h1,h2,h3,rfl,h5⟩ (by rw[aQ ht]) (by rw[aQ Gc]) (by rw[aQ Gc])
theorem LR.VF{L R:List Th}(h:LR L R)(hL:OK L)(t m:Int):(dg R t m).2=(dg L t m).2∧LR (dg L t m).1 (dg R t m).1:=by
 unfold dg
 by_cases hc:(val L t&&(val L m&&decide ((ax L m).kind=1)))=false
 ·have hc2:(val R t&&(val R m&&decide ((ax R m).kind=1)))=false:=by
   rw[h.dX,h.dX]
   cases hm:val L m with
   | false=>cases val L t<;>rfl
   | true =>
    obtain⟨m,rfl,hml⟩:=bD hm
    rw[(h.th m hml).1,←hm];exact hc
  rw[if_pos hc,if_pos hc2]
  exact⟨rfl,h⟩
 rw[if_neg hc]
 have hc':(val L t&&(val L m&&decide ((ax L m).kind=1)))=true:=by simpa using hc
 simp only[Bool.and_eq_true,decide_eq_true_eq] at hc'
 obtain⟨ht,hm,hk⟩:=hc'
 obtain⟨t,rfl,fW⟩:=bD ht
 obtain⟨m,rfl,hml⟩:=bD hm
 have VG:=h.th t fW
 have U':=h.th m hml
 rw[if_neg (by rw[h.dX,h.dX,ht,hm,U'.1,hk];decide)]
 rw[VG.2.2.2.2,h.rW hL.wf hml]
 by_cases hd:bh (ax L t).ins m=true
 ·rw[if_pos hd,if_pos hd];exact⟨rfl,h⟩
 rw[if_neg hd,if_neg hd]
 by_cases hh:(m:Int)=t∨bh (aP L m) t=true
 ·rw[if_pos hh,if_pos hh];exact⟨rfl,h⟩
 rw[if_neg hh,if_neg hh]
 simp only[not_or,Bool.not_eq_true] at hh hd
 have hW:=h.CQ fW ((m:Int)::(ax L t).ins)
 obtain⟨r,B⟩:=Qm hL m t fW hm hk hd hh.2
 rw[show ((t:Int)).toNat=t from rfl]
 have hiff:(∀k:Nat,k<L.length→∃o,aE (de L t ((m:Int)::(ax L t).ins)) k=some o)↔∀k:Nat,k<R.length→∃o,aE (de R t ((m:Int)::(ax L t).ins)) k=some o:=by
  have hl:(de L t ((m:Int)::(ax L t).ins)).length=L.length:=by simp[de]
  have he:∀k:Nat,k<L.length→aE (de R t ((m:Int)::(ax L t).ins)) k=aE (de L t ((m:Int)::(ax L t).ins)) k:=fun k hk=>nG B hW.same (by rw[hl];exact hk)
  rw[h.len]
  exact⟨fun q k hk=>by rw[he k hk];exact q k hk,fun q k hk=>by rw[←he k hk];exact q k hk⟩
 by_cases ho:∀k:Nat,k<L.length→∃o,aE (de L t ((m:Int)::(ax L t).ins)) k=some o
 ·rw[if_pos ho,if_pos (hiff.1 ho)]
  exact⟨rfl,hW⟩
 ·rw[if_neg ho,if_neg fun q=>ho (hiff.2 q)]
  exact⟨rfl,h⟩
theorem LR.VH{L R:List Th}(h:LR L R)(hL:OK L)(t m:Int):(dh R t m).2=(dh L t m).2∧LR (dh L t m).1 (dh R t m).1:=by
 unfold dh
 by_cases hc:(val L t&&(val L m&&decide ((ax L m).kind=1)))=false
 ·have hc2:(val R t&&(val R m&&decide ((ax R m).kind=1)))=false:=by
   rw[h.dX,h.dX]
   cases hm:val L m with
   | false=>cases val L t<;>rfl
   | true =>
    obtain⟨m,rfl,hml⟩:=bD hm
    rw[(h.th m hml).1,←hm];exact hc
  rw[if_pos hc,if_pos hc2]
  exact⟨rfl,h⟩
 rw[if_neg hc]
 have hc':(val L t&&(val L m&&decide ((ax L m).kind=1)))=true:=by simpa using hc
 simp only[Bool.and_eq_true,decide_eq_true_eq] at hc'
 obtain⟨ht,hm,hk⟩:=hc'
 obtain⟨t,rfl,fW⟩:=bD ht
 obtain⟨m,rfl,hml⟩:=bD hm
 have VG:=h.th t fW
 have U':=h.th m hml
 rw[if_neg (by rw[h.dX,h.dX,ht,hm,U'.1,hk];decide)]
 rw[VG.2.2.2.1,h.rW hL.wf hml]
 by_cases hd:bh (ax L t).bU m=true
 ·rw[if_pos hd,if_pos hd];exact⟨rfl,h⟩
 rw[if_neg hd,if_neg hd]
 by_cases hh:(m:Int)=t∨bh (aP L m) t=true
 ·rw[if_pos hh,if_pos hh];exact⟨rfl,h⟩
 rw[if_neg hh,if_neg hh]
 simp only[not_or,Bool.not_eq_true] at hh hd
 have hW:=h.CR fW ((m:Int)::(ax L t).bU)
 obtain⟨r,B⟩:=Qn hL m t fW hm hk hd hh.2
 rw[show ((t:Int)).toNat=t from rfl]
 have hiff:(∀k:Nat,k<L.length→∃o,aE (cH L t ((m:Int)::(ax L t).bU)) k=some o)↔∀k:Nat,k<R.length→∃o,aE (cH R t ((m:Int)::(ax L t).bU)) k=some o:=by
  have hl:(cH L t ((m:Int)::(ax L t).bU)).length=L.length:=by simp[cH]
  have he:∀k:Nat,k<L.length→aE (cH R t ((m:Int)::(ax L t).bU)) k=aE (cH L t ((m:Int)::(ax L t).bU)) k:=fun k hk=>nG B hW.same (by rw[hl];exact hk)
  rw[h.len]
  exact⟨fun q k hk=>by rw[he k hk];exact q k hk,fun q k hk=>by rw[←he k hk];exact q k hk⟩
 by_cases ho:∀k:Nat,k<L.length→∃o,aE (cH L t ((m:Int)::(ax L t).bU)) k=some o
 ·rw[if_pos ho,if_pos (hiff.1 ho)]
  exact⟨rfl,hW⟩
 ·rw[if_neg ho,if_neg fun q=>ho (hiff.2 q)]
  exact⟨rfl,h⟩
def ia (t:Int) (x:Th):Bool:=decide (x.kind=2)&&decide (x.own=t)
def iz (R:List Th) (t:Int):Int:=lZ (ia t) R
theorem LR.pX{L R:List Th}(h:LR L R)(hL:OK L){t:Nat}(ht:t<L.length)(h0:0≤(ax L t).own):iz R t=(ax L t).own:=by
 have h1:=(hL.own t _ (mR (u:=(t:Int)) (by omega) (by omega)) h0).1
 obtain⟨i,hi⟩:∃i:Nat,(ax L t).own=i:=⟨(ax L t).own.toNat,by omega⟩
 rw[hi] at h1
 have hil:i<L.length:=by omega
 have hiR:i<R.length:=by rw[h.len];exact hil
 rw[hi]
 refine hU hiR (fun j hj=>?_) ?_
 ·have hjR:j<R.length:=by omega
  cases hb:ia t R[j] with
  | false=>rfl
  | true =>
   simp only[ia,Bool.and_eq_true,decide_eq_true_eq,←aQ hjR] at hb
   have:=(h.own t j ht (by omega)).1 hb
   omega
 ·have:=(h.own t i ht hil).2 hi
  rw[aQ hiR] at this
  simp[ia,this]
theorem LR.Qx{L R:List Th}(h:LR L R){t:Nat}(ht:t<L.length)(h0:(ax L t).own<0):iz R t=-1:=by
 refine fV fun j hj=>?_
 cases hb:ia t R[j] with
 | false=>rfl
 | true =>
  simp only[ia,Bool.and_eq_true,decide_eq_true_eq,←aQ hj] at hb
  have:=(h.own t j ht (by rw[←h.len];exact hj)).1 hb
  omega
theorem LR.rX{L R:List Th}(h:LR L R)(hL:OK L){t:Nat}(ht:t<L.length):0≤iz R t↔0≤(ax L t).own:=by
 by_cases h0:0≤(ax L t).own
 ·rw[h.pX hL ht h0]
 ·rw[h.Qx ht (by omega)];omega
def eA:Nat→List Th→Int→List Int
 | 0,_,_=>[]
 | n+1,R,c=>if c<0 then [] else if 0≤iz R c then [] else c::eA n R (ax R c).sup
def nI (R:List Th) (w:Int):Int:=if 0≤(ax R w).sup then iz R (ax R w).sup else 0
def xR (R:List Th) (w:Int):List Th:=R++[⟨2,nI R w,-1,w,[],[]⟩]
theorem LR.Qy{L R:List Th}(h:LR L R)(hL:OK L){t:Nat}(ht:t<L.length)(hno:(ax L t).own<0)(w:Int) :
  LR ((L++[aU 2 w (-1)]).set t { ax (L++[aU 2 w (-1)]) t with own:=(L.length:Int) }) (R++[⟨2,w,-1,(t:Int),[],[]⟩]):=by
 have hlen:=h.len
 have hown:∀k:Nat,k<L.length→(ax L k).own<L.length:=fun k hk=>by
  by_cases h0:0≤(ax L k).own
  ·exact(hL.own k _ (mR (u:=(k:Int)) (by omega) (by omega)) h0).1
  ·omega
 have Qf:t<(L++[aU 2 w (-1)]).length:=by simp;omega
 have hRn:ax (R++[⟨2,w,-1,(t:Int),[],[]⟩]) (L.length:Int)=⟨2,w,-1,(t:Int),[],[]⟩:=by rw[←hlen];exact mS
 have hRo:∀k:Nat,k<L.length→ax (R++[⟨2,w,-1,(t:Int),[],[]⟩]) k=ax R k:=fun k hk=>iU (by omega)
 have hLn:ax ((L++[aU 2 w (-1)]).set t { ax (L++[aU 2 w (-1)]) t with own:=(L.length:Int) }) (L.length:Int)=aU 2 w (-1):=by
  rw[jR Qf _ (by simp),if_neg (by omega),mS]
 have hLt:ax ((L++[aU 2 w (-1)]).set t { ax (L++[aU 2 w (-1)]) t with own:=(L.length:Int) }) (t:Int)={ ax L t with own:=(L.length:Int) }:=by
  rw[jR Qf _ (by simp;omega),if_pos rfl,iU ht]
 have hLo:∀k:Nat,k<L.length→k≠t→ax ((L++[aU 2 w (-1)]).set t { ax (L++[aU 2 w (-1)]) t with own:=(L.length:Int) }) (k:Int)=ax L k:=fun k hk hkt=>by
  rw[jR Qf _ (by simp;omega),if_neg hkt,iU hk]
 have hll:((L++[aU 2 w (-1)]).set t { ax (L++[aU 2 w (-1)]) t with own:=(L.length:Int) }).length=L.length+1:=by simp
 refine⟨by simp[hlen],fun k hk=>?_,fun k i hk hi=>?_,fun i hi hk2=>?_⟩
 ·rw[hll] at hk
  by_cases e:k=L.length
  ·subst e;rw[hLn,hRn];exact⟨rfl,rfl,rfl,rfl,rfl⟩
  ·rw[hRo k (by omega)]
   by_cases e2:k=t
   ·subst e2;rw[hLt];exact h.th k ht
   ·rw[hLo k (by omega) e2];exact h.th k (by omega)
 ·rw[hll] at hk hi
  by_cases e:i=L.length
  ·subst e
   rw[hRn]
   by_cases e1:k=L.length
   ·subst e1;rw[hLn]
    refine⟨fun q=>?_,fun q=>?_⟩
    ·have:=q.2;simp only at this;omega
    ·simp[aU] at q
   ·by_cases e2:k=t
    ·subst e2;rw[hLt];exact⟨fun _=>rfl,fun _=>⟨rfl,rfl⟩⟩
    ·rw[hLo k (by omega) e2]
     have:=hown k (by omega)
     refine⟨fun q=>?_,fun q=>?_⟩
     ·have:=q.2;simp only at this;omega
     ·omega
  ·rw[hRo i (by omega)]
   by_cases e1:k=L.length
   ·subst e1;rw[hLn]
    refine⟨fun q=>?_,fun q=>?_⟩
    ·have:=h.rng i (by omega) q.1;omega
    ·simp[aU] at q
   ·by_cases e2:k=t
    ·subst e2;rw[hLt]
     refine⟨fun q=>?_,fun q=>?_⟩
     ·have:=(h.own k i ht (by omega)).1 q;omega
     ·simp only at q;omega
    ·rw[hLo k (by omega) e2];exact h.own k i (by omega) (by omega)
 ·rw[hll] at hi ⊢
  by_cases e:i=L.length
  ·subst e;rw[hRn];simp only;omega
  ·rw[hRo i (by omega)] at hk2 ⊢
   have:=h.rng i (by omega) hk2
   exact⟨this.1,by push_cast;omega⟩
theorem LR.CS{L R:List Th}(h:LR L R)(hL:OK L):∀(n:Nat) {t:Nat} (ht:t<L.length),rk L t<n→(eA n R t).length=cp n L t
 | 0,t,ht,hr=>by omega
 | n+1,t,ht,hr=>by
  have hx:L[t]? = some L[t]:=List.getElem?_eq_getElem ht
  have ec:=aQ ht
  have hge:=h.rX hL ht
  rw[ec] at hge
  have FW:(ax R t).sup=L[t].sup:=by rw[(h.th t ht).2.1,ec]
  have ZB:¬(t:Int)<0:=by omega
  by_cases h1:0≤L[t].own
  ·rw[eA,if_neg ZB,if_pos (hge.2 h1),cp,ec,if_pos h1];rfl
  ·rw[eA,if_neg ZB,if_neg fun q=>h1 (hge.1 q),FW,cp,ec,if_neg h1]
   by_cases h2:0≤L[t].sup
   ·obtain⟨q1,q2⟩:=hL.ZA.up t _ hx h2
    obtain⟨s,hs⟩:∃s:Nat,L[t].sup=s:=⟨L[t].sup.toNat,by omega⟩
    rw[hs] at q1 q2
    rw[if_pos h2,hs,List.length_cons,LR.CS h hL n (t:=s) (by omega) (by omega)];omega
   ·have hwn:eA n R L[t].sup=[]:=by cases n with
     | zero=>rfl
     | succ n=>rw[eA,if_pos (by omega)]
    rw[if_neg h2,hwn];rfl
theorem LR.mk_eq{L R:List Th}(h:LR L R)(hL:OK L)(hpos:0<L.length):∀(n:Nat) {t:Nat} (ht:t<L.length),rk L t<n→L.length+cp n L t≤1000 →
  (eA n R t).length=cp n L t∧LR (iL n L t).1 ((eA n R t).reverse.foldl xR R)
 | 0,t,ht,hr,hroom=>by omega
 | n+1,t,ht,hr,hroom=>by
  have hx:L[t]? = some L[t]:=List.getElem?_eq_getElem ht
  have ec:=aQ ht
  have hge:=h.rX hL ht
  rw[ec] at hge
  have FW:(ax R t).sup=L[t].sup:=by rw[(h.th t ht).2.1,ec]
  have ZB:¬(t:Int)<0:=by omega
  by_cases h1:0≤L[t].own
  ·have hm:iL (n+1) L t=(L,L[t].own):=by unfold iL;rw[ec,if_pos h1]
   have KU:cp (n+1) L t=0:=by rw[cp,ec,if_pos h1]
   have hw:eA (n+1) R t=[]:=by rw[eA,if_neg ZB,if_pos (hge.2 h1)]
   rw[hm,KU,hw]
   exact⟨rfl,h⟩
  ·have hw:eA (n+1) R t=(t:Int)::eA n R L[t].sup:=by rw[eA,if_neg ZB,if_neg fun q=>h1 (hge.1 q),FW]
   by_cases h2:0≤L[t].sup
   ·obtain⟨q1,q2⟩:=hL.ZA.up t _ hx h2
    obtain⟨s,hs⟩:∃s:Nat,L[t].sup=s:=⟨L[t].sup.toNat,by omega⟩
    rw[hs] at q1 q2 hw
    have KU:cp (n+1) L t=1+cp n L s:=by rw[cp,ec,if_neg h1,if_pos (by omega),hs]
    have hs0:(0:Int)≤s:=by omega
    have oE:=pU n L s
    obtain⟨ih1,ih2⟩:=LR.mk_eq h hL hpos n (t:=s) (by omega) (by omega) (by omega)
    obtain⟨p1,p2,p3,p4,p5⟩:=zZ n hL hpos (t:=s) (by omega) (by omega) (by omega)
    have hm:iL (n+1) L t=(((iL n L s).1++[aU 2 (iL n L s).2 (-1)]).set t { ax ((iL n L s).1++[aU 2 (iL n L s).2 (-1)]) t with own:=((iL n L s).1.length:Int) },((iL n L s).1.length:Int)):=by
     rw[iL,ec,if_neg h1]
     simp only[hs,hs0,if_true,Int.toNat_natCast]
    rw[hm,KU,hw]
    refine⟨by simp only[List.length_cons,ih1];omega,?_⟩
    rw[List.reverse_cons,List.foldl_append,List.foldl_cons,List.foldl_nil]
    generalize (eA n R s).reverse.foldl xR R=R1 at *
    generalize iL n L s=p at *
    obtain⟨L1,w⟩:=p
    simp only at *
    obtain⟨x1,hx1,e1,e2,e3,e4⟩:=p5 t _ hx
    have ht1:t<L1.length:=by omega
    have Vu:ax L1 t=x1:=lz hx1
    have ho:(ax L1 t).own<0:=by rw[Vu,e4 q2];omega
    have hsR:(ax R1 t).sup=s:=by rw[(ih2.th t ht1).2.1,Vu,e2,hs]
    have hab:nI R1 t=w:=by
     unfold nI
     rw[hsR,if_pos hs0,ih2.pX p1 (by omega) (by rw[p3];exact p2),p3]
    unfold xR
    rw[hab]
    exact ih2.Qy p1 ht1 ho w
   ·have KU:cp (n+1) L t=1:=by rw[cp,ec,if_neg h1,if_neg h2]
    have hm:iL (n+1) L t=((L++[aU 2 0 (-1)]).set t { ax (L++[aU 2 0 (-1)]) t with own:=(L.length:Int) },(L.length:Int)):=by
     rw[iL,ec,if_neg h1]
     simp only[h2,if_false,Int.toNat_natCast]
    have hwn:eA n R L[t].sup=[]:=by cases n with
     | zero=>rfl
     | succ n=>rw[eA,if_pos (by omega)]
    rw[hm,KU,hw,hwn]
    refine⟨rfl,?_⟩
    have hab:nI R t=0:=by unfold nI;rw[FW,if_neg h2]
    show LR _ (xR R t)
    unfold xR
    rw[hab]
    exact h.Qy hL ht (by rw[ec];omega) 0
def dJ (R:List Th) (t:Int):List Th×Int×Int :=
 if val R t=false∨(ax R t).kind=2 then (R,0,1)
 else if 0≤iz R t then (R,iz R t,0)
 else if 1000<R.length+(eA 1001 R t).length then (R,0,9)
 else ((eA 1001 R t).reverse.foldl xR R,iz ((eA 1001 R t).reverse.foldl xR R) t,0)
theorem LR.ZH{L R:List Th}(h:LR L R)(hL:OK L)(hpos:0<L.length)(t:Int):(dJ R t).2=(fu L t).2∧LR (fu L t).1 (dJ R t).1:=by
 have oF:=h.dX t
 cases hv:val L t with
 | false =>
  have e1:dJ R t=(R,0,1):=by unfold dJ;rw[if_pos (.inl (oF.trans hv))]
  have e2:fu L t=(L,0,1):=by unfold fu;rw[if_pos (.inl hv)]
  rw[e1,e2];exact⟨rfl,h⟩
 | true =>
  have Yx:val R t=true:=oF.trans hv
  obtain⟨t,rfl,ht⟩:=bD hv
  have hk:=(h.th t ht).1
  by_cases h2:(ax L t).kind=2
  ·have e1:dJ R t=(R,0,1):=by unfold dJ;rw[if_pos (.inr (hk.trans h2))]
   have e2:fu L t=(L,0,1):=by unfold fu;rw[if_pos (.inr h2)]
   rw[e1,e2];exact⟨rfl,h⟩
  ·have FK:¬(val R t=false∨(ax R t).kind=2):=by rw[Yx,hk];simp[h2]
   have hn2:¬(val L t=false∨(ax L t).kind=2):=by rw[hv];simp[h2]
   have hrk:=CG hL.wf t
   have hll:=hL.len
   by_cases h1:0≤(ax L t).own
   ·have hm:iL 1001 L t=(L,(ax L t).own):=by unfold iL;rw[if_pos h1]
    have KU:cp 1001 L t=0:=by unfold cp;rw[if_pos h1]
    have e1:dJ R t=(R,(ax L t).own,0):=by unfold dJ;rw[if_neg FK,if_pos ((h.rX hL ht).2 h1),h.pX hL ht h1]
    have e2:fu L t=(L,(ax L t).own,0):=by unfold fu;rw[if_neg hn2,KU,if_neg (by omega),hm]
    rw[e1,e2];exact⟨rfl,h⟩
   ·have hge:¬0≤iz R t:=fun q=>h1 ((h.rX hL ht).1 q)
    have hw:(eA 1001 R t).length=cp 1001 L t:=LR.CS h hL 1001 ht (by omega)
    by_cases hf:1000<L.length+cp 1001 L t
    ·have e1:dJ R t=(R,0,9):=by unfold dJ;rw[if_neg FK,if_neg hge,if_pos (by rw[hw,h.len];exact hf)]
     have e2:fu L t=(L,0,9):=by unfold fu;rw[if_neg hn2,if_pos hf]
     rw[e1,e2];exact⟨rfl,h⟩
    ·obtain⟨q1,q2⟩:=LR.mk_eq h hL hpos 1001 ht (by omega) (by omega)
     obtain⟨p1,p2,p3,p4,p5⟩:=zZ 1001 hL hpos ht (by omega) (by omega)
     have hl2:t<(iL 1001 L t).1.length:=by rw[pU];omega
     have e1:dJ R t=((eA 1001 R t).reverse.foldl xR R,iz ((eA 1001 R t).reverse.foldl xR R) t,0):=by
      unfold dJ;rw[if_neg FK,if_neg hge,if_neg (by rw[hw,h.len];exact hf)]
     have e2:fu L t=((iL 1001 L t).1,(iL 1001 L t).2,0):=by unfold fu;rw[if_neg hn2,if_neg hf]
     rw[e1,e2]
     refine⟨?_,q2⟩
     rw[q2.pX p1 hl2 (by rw[p3];exact p2),p3]
theorem LR.ZA{L R:List Th}(h:LR L R)(hL:OK L):Zw R (rk L):=by
 refine⟨fun t x hx h0=>?_,by rw[h.len];exact hL.len⟩
 have Gc:t<R.length:=(List.getElem?_eq_some_iff.1 hx).1
 have ht:t<L.length:=by rw[←h.len];exact Gc
 have hs:=(h.th t ht).2.1
 rw[lz hx] at hs
 have hx2:L[t]? = some (ax L t):=mR (u:=(t:Int)) (by omega) (by omega)
 have:=hL.ZA.up t _ hx2 (by omega)
 rw[h.len,hs];exact this
end Go.Proofs.YtbhigdljojlhnaaGreat

namespace Go.Proofs.YtbhigdljojlhnaaGreat
set_option linter.all false
open Go.Vc Go.Proofs
set_option maxRecDepth 100000
set_option maxHeartbeats 4000000
attribute [local irreducible] bx jv
theorem Qt(n:Nat):(sq (List.replicate n (.val (.bool false))):D)=F8 (List.replicate n false):=by simp[F8]
theorem Qu(n:Nat):(sq (List.replicate n (.sl true () 1 .nil)):D)=rM (List.replicate n (true,[])):=by simp[rM]
noncomputable def oX (R:List Th):List (Bool×List Int):=(List.range R.length).map fun t:Nat=>(false,aP R (t:Int))
theorem ade(R:List Th):jQ R (List.replicate R.length false) (List.replicate R.length (true,[])):=⟨by simp,by simp,fun i h hk=>by simp at hk⟩
theorem Qv{R:List Th}{kn:List Bool}{gd:List (Bool×List Int)}(h:jQ R kn gd)(hall:∀j,j<R.length→kn[j]? = some true):gd=oX R:=by
 apply List.ext_getElem
 ·rw[h.ll];simp[oX]
 ·intro i h1 h2
  have hi:i<R.length:=by rw[←h.ll];exact h1
  have hk:=hall i hi
  rw[List.getElem?_eq_getElem (by rw[h.kl];exact hi),Option.some.injEq] at hk
  obtain⟨o,q1,q2⟩:=h.ok i hi hk
  rw[q2]
  simp[oX,aP,q1]
theorem Ae(X:List D)(k:Nat)(q:Path){n:Nat}(ex:Bool)(h:0<n):lB X k q n ex=none:=by
 cases n with
 | zero=>omega
 | succ n=>unfold lB;cases ex<;>rfl
def Yv (R:List Th) (av:AV) (X:List D) (κ:List (Nat×Path)):Prop :=
 ((∀k:Nat,k<R.length→∃o,aE R k=some o)∧(∃kn,av=.cT (.cons (.sub 1 [.d,.f 1] 0 R.length false) (.cons (aN true) .nil))∧X=[dR R,dO kn (oX R)])∧κ=[]) ∨
 ((∃k:Nat,k<R.length∧aE R k=none)∧av=.cT (.cons (.bE 1) (.cons (aN false) .nil))∧X=[dR R]∧κ=[])
theorem K3{R:List Th}{r:Int→Nat}(B:ez R r){t:Nat}(ht:t<R.length){kn:List Bool}{gd:List (Bool×List Int)}(hM:jQ R kn gd){o:List Int}(ho:aE R t=some o) :
  ai Tryz.prog 136 [dR R,dO kn gd] (.cons (.ptr 0 [.d]) (.cons (.ptr 1 [.d]) (.cons (ag t) .nil)))
  fun av X κ=>∃vf oS,jQ R vf oS∧qS kn vf∧vf[t]? = some true∧av=aN true∧X=[dR R,dO vf oS]∧κ=[(1,[.d])] :=
 ai.mono (CP B t ht kn gd hM) fun av X κ ⟨kn,gd,h1,h2,h3,h4,h5,h6⟩=>by rw[ho] at h5 h6;exact⟨kn,gd,h1,h2,h6 rfl,h5,h3,h4⟩
theorem Qw{R:List Th}{r:Int→Nat}(B:ez R r){t:Nat}(ht:t<R.length){kn:List Bool}{gd:List (Bool×List Int)}(hM:jQ R kn gd)(ho:aE R t=none) :
  ai Tryz.prog 136 [dR R,dO kn gd] (.cons (.ptr 0 [.d]) (.cons (.ptr 1 [.d]) (.cons (ag t) .nil)))
  fun av X κ=>∃vf oS,av=aN false∧X=[dR R,dO vf oS]∧κ=[(1,[.d])] :=
 ai.mono (CP B t ht kn gd hM) fun av X κ ⟨kn,gd,h1,h2,h3,h4,h5,h6⟩=>by rw[ho] at h5;exact⟨kn,gd,h5,h3,h4⟩
theorem tF{R:List Th}{r:Int→Nat}(B:ez R r)(hp:0<R.length):ai Tryz.prog 127 [dR R] (.cons (.ptr 0 [.d]) .nil) (Yv R):=by
 unfold Yv
 have hL:=B.len
 have b1:(R.length:Int)≤140737488355328:=by omega
 have b2:(R.length:Int)*24≤140737488355328:=by omega
 have b3:(R.length:Int)≤9223372036854775807:=by omega
 refine fb Tryz.func127 Tryz.ntmps127 [.tmp 2,.tmp 3] fun w0 I0 F0 hF=>?_
 have Yw:=fun X k q=>Ae X k q (n:=R.length) true hp
 have uq:(F8 (List.replicate R.length false)).mid 0 R.length=F8 (List.replicate R.length false):=aV _ _ (by simp)
 have hm2:(rM (List.replicate R.length (true,[]))).mid 0 R.length=rM (List.replicate R.length (true,[])):=aV _ _ (by simp)
 repeat first|refine n1 ?_|refine n3 ?_|(first|refine rg 0 [0] [0] [] ?_|(refine dr 1 0 [0] [0,4] [] [⟨0,1,64,5⟩,⟨1,64,128,5⟩,⟨2,128,256,5⟩,⟨4,256,512,6⟩,⟨8,512,1024,5⟩,⟨16,1024,2048,4⟩,⟨0,1,4096,5⟩,⟨64,4096,8192,5⟩,⟨128,8192,16384,5⟩,⟨256,16384,32768,6⟩,⟨512,32768,65536,5⟩,⟨1024,65536,131072,4⟩,⟨2080,133120,262144,5⟩,⟨4096,262144,524288,4⟩,⟨16383,524288,16,5⟩] (.take 0 (.take 1 (.take 2 (.take 3 (.take 4 (.take 6 (.take 7 (.take 8 (.take 9 (.take 10 (.fork (.alt 5 (.fork (.alt 11 (.take 12 (.fork (.alt 13 (.take 14 (.done)) (.nil)))) (.nil))) (.alt 11 (.fork (.alt 5 (.take 12 (.fork (.alt 13 (.take 14 (.done)) (.nil)))) (.nil))) (.nil)))))))))))))) (.run [0,1,2,3,4,6,7,8,9,10] (.both (.run [5,11,12,13,14] (.done)) (.run [11,5,12,13,14] (.done)))) ?_;simp only[nD])|refine rg 2 [0,4] [0,4,5] [] ?_);simp[hF,dR,b1,b2,b3,Qt,Qu,Yw,uq,hm2]
 refine VS.pick [0,4,5] [0,3] (by simp[hF]) ?_;simp[hF]
 refine VS.rounds (fun m st=>∃(i:Nat) (kn:List Bool) (gd:List (Bool×List Int)),i+m=R.length∧jQ R kn gd∧(∀j:Nat,j<i→kn[j]? = some true∧∃o,aE R j=some o) ∧
  st=⟨[(0,.ptr 0 [.d]),(4,.ptr 1 [.d]),(5,ag i)],[dR R,dO kn gd],[],[]⟩) ⟨R.length,0,_,_,by omega,ade R,(fun j h=>by omega),by simp[dO,dR]⟩ ?_
 rintro m st ⟨i,kn,gd,hi,hM,hall,rfl⟩
 repeat first|refine n1 ?_|(first|refine rg 3 [0,4,5] [0,4,5,26] [] ?_|refine nc ?_);simp[hF,dR]
 refine⟨fun hlt=>?_,fun hge=>?_⟩
 ·have hil:i<R.length:=by omega
  cases ho:aE R i with
  | some o =>
   repeat first|refine n1 ?_|refine n2 ?_|refine n3 ?_|refine rg 5 [0,4,5] [0,4,5,33] [] ?_;simp[hF]
   refine(K3 B hil hM ho).go [(0,[]),(1,[])] (by simp[hF,dR,dO]) ?_;rintro av X κ ⟨vf,oS,hM',hmo,hkt,rfl,rfl,rfl⟩;simp[hF,dR,dO]
   repeat first|refine n2 ?_|refine n4 ?_|refine n5 ?_|refine n6 ?_|(first|refine rg 4 [0,4,5] [0,4,5] [] ?_|refine nc ?_);simp[hF]
   refine aO.of [0,4,5] [0,1] (m-1) (by omega) (by simp[hF]) ?_
   refine⟨i+1,vf,oS,by omega,hM',fun j hj=>?_,?_⟩
   ·by_cases e:j=i
    ·subst e;exact⟨hkt,o,ho⟩
    ·obtain⟨q1,q2⟩:=hall j (by omega)
     exact⟨hmo j q1,q2⟩
   ·simp[dR,dO]
    exact IntWalk.i64_in _ (by omega)
  | none =>
   repeat first|refine n1 ?_|refine n2 ?_|refine n3 ?_|refine rg 5 [0,4,5] [0,4,5,33] [] ?_;simp[hF]
   refine(Qw B hil hM ho).go [(0,[]),(1,[])] (by simp[hF,dR,dO]) ?_;rintro av X κ ⟨vf,oS,rfl,rfl,rfl⟩;simp[hF,dR,dO]
   repeat first|refine n1 ?_|(first|refine rg 6 [] [2,3] [] ?_|refine nc ?_);simp[hF]
   (try refine nr ?_);(repeat first|refine aF ?_|refine aG ?_);refine ak.o [2,3] [0] [] ?_;simp[hF,an,aa,ah,dR]
   exact⟨i,hil,ho⟩
 ·obtain rfl:i=R.length:=by omega
  have afF:=Qv hM fun j hj=>(hall j hj).1
  subst afF
  have hlen:(oX R).length=R.length:=by simp[oX]
  repeat first|refine n1 ?_|refine n7 ?_|refine rg 7 [4] [2,3] [] ?_;simp[hF,dO,hlen]
  (try refine nr ?_);(repeat first|refine aF ?_|refine aG ?_);refine ak.o [2,3] [0,1] [] ?_;simp[hF,an,aa,ah,dR,dO]
  exact⟨fun k hk=>(hall k hk).2,kn,rfl⟩
theorem vS{R:List Th}{r:Int→Nat}(B:ez R r)(hp:0<R.length)(h:∀k:Nat,k<R.length→∃o,aE R k=some o):ai Tryz.prog 127 [dR R] (.cons (.ptr 0 [.d]) .nil)
  fun av X κ=>∃kn,av=.cT (.cons (.sub 1 [.d,.f 1] 0 R.length false) (.cons (aN true) .nil))∧X=[dR R,dO kn (oX R)]∧κ=[]:=by
 refine ai.mono (tF B hp) fun av X κ h'=>?_
 rcases h' with ⟨_,⟨kn,h1,h2⟩,h3⟩|⟨⟨k,hk,hn⟩,_⟩
 ·exact⟨kn,h1,h2,h3⟩
 ·obtain⟨o,ho⟩:=h k hk;rw[ho] at hn;cases hn
theorem vT{R:List Th}{r:Int→Nat}(B:ez R r)(hp:0<R.length)(h:¬∀k:Nat,k<R.length→∃o,aE R k=some o):ai Tryz.prog 127 [dR R] (.cons (.ptr 0 [.d]) .nil)
  fun av X κ=>av=.cT (.cons (.bE 1) (.cons (aN false) .nil))∧X=[dR R]∧κ=[]:=by
 refine ai.mono (tF B hp) fun av X κ h'=>?_
 rcases h' with ⟨h1,_⟩|⟨_,h2⟩
 ·exact absurd h1 h
 ·exact h2
theorem qT{R:List Th}(W:uw R)(hp:0<R.length):ai Tryz.prog 127 [dR R] (.cons (.ptr 0 [.d]) .nil)
  fun av X κ=>∃kn,av=.cT (.cons (.sub 1 [.d,.f 1] 0 R.length false) (.cons (aN true) .nil))∧X=[dR R,dO kn (oX R)]∧κ=[]:=by
 obtain⟨r,B⟩:=W.base
 refine ai.mono (tF B hp) fun av X κ h=>?_
 rcases h with ⟨_,⟨kn,h1,h2⟩,h3⟩|⟨⟨k,hk,hn⟩,_⟩
 ·exact⟨kn,h1,h2,h3⟩
 ·rw[W.ord hk] at hn;cases hn
theorem vU{R:List Th}{t:Nat}(h:t<R.length):(rM (oX R)).nth t=.sl false () 1 (aj (aP R t)):=by
 rw[pR (by simpa[oX] using h)];simp[oX]
theorem Gb{R:List Th}(W:uw R)(t:Nat)(ht:t<R.length):ai Tryz.prog 121 [dR R] (.cons (.ptr 0 [.d]) (.cons (ag t) .nil))
  fun av X κ=>av=fX (.cA 1 (aj (aP R t)) false) 0∧X=[dR R]∧κ=[]:=by
 have hv:val R t=true:=by simp[val,ht]
 have hn:=vU ht
 have va:(aP R t).length≤1000:=W.base.elim fun _ B=>dW B ht (W.ord ht)
 have b1:(aP R t).length*8≤140737488355328:=by omega
 have b2:(aP R t).length≤9223372036854775807:=by omega
 have hlen:(oX R).length=R.length:=by simp[oX]
 refine fb Tryz.func121 Tryz.ntmps121 [.tmp 4,.tmp 5] fun w0 I0 F0 hF=>?_
 repeat first|refine n1 ?_|(first|refine rg 0 [0,1] [0,1] [] ?_|refine rg 1 [0,1] [0,1,11] [] ?_);simp[hF]
 refine(cR R t).go [(0,[])] (by simp[hF,dR,hv]) ?_;rintro av X κ ⟨rfl,rfl,rfl⟩;simp[hF,dR,hv]
 repeat first|refine n1 ?_|refine n2 ?_|(first|refine rg 3 [0,1] [1,6] [] ?_|refine nc ?_);simp[hF]
 refine(qT W (by omega)).go [(0,[])] (by simp[hF,dR,dO]) ?_;rintro av X κ ⟨kn,rfl,rfl,rfl⟩;simp[hF,dR,dO]
 repeat first|refine n1 ?_|refine rg 4 [1,6] [4,5] [] ?_;simp[hF,hn,ht,hlen,b1,b2]
 refine VS.fl 4 (by simp[hF]) ?_;simp[hF,St.fl]
 (try refine nr ?_);(repeat first|refine aF ?_|refine aG ?_);refine ak.o [4,5] [0] [] ?_;simp[hF,an,aa,ah,dR]
theorem oY(R:List Th)(hl:R.length≤5000)(t:Int):ai Tryz.prog 112 [dR R] (.cons (.ptr 0 [.d]) (.cons (ag t) .nil))
  fun av X κ=>av=ag (iz R t)∧X=[dR R]∧κ=[]:=by
 refine fb Tryz.func112 Tryz.ntmps112 [.tmp 4] fun w0 I0 F0 hF=>?_
 repeat first|refine n1 ?_|refine n3 ?_|(first|refine rg 0 [0,1] [0,1] [] ?_|refine rg 1 [0,1] [0,1,5] [] ?_);simp[hF]
 refine VS.rounds (fun m st=>∃(i:Nat),i+m=R.length∧(∀j,(h:j<R.length)→j<i→ia t R[j]=false)∧st=⟨[(0,.ptr 0 [.d]),(1,ag t),(5,ag i)],[dR R],[],[]⟩) ⟨R.length,0,by omega,(fun j h hj=>by omega),by simp⟩ ?_
 rintro m st ⟨i,hi,hall,rfl⟩
 repeat first|refine n1 ?_|(first|refine rg 2 [0,1,5] [0,1,5,12] [] ?_|refine nc ?_);simp[hF,dR]
 refine⟨fun hlt=>?_,fun hge=>?_⟩
 ·have hil:i<R.length:=by omega
  have hn:=bH hil
  have fin:ia t R[i]=false→∀j,(h:j<R.length)→j<i+1→ia t R[j]=false:=fun h j hj hji=>by
   by_cases e:j=i
   ·subst e;exact h
   ·exact hall j hj (by omega)
  by_cases h1:R[i].kind=2
  ·by_cases h2:R[i].own=t
   ·have hr:iz R t=i:=hU hil (fun j h=>hall j (by omega) h) (by simp[ia,h1,h2])
    repeat first|refine n1 ?_|refine n2 ?_|refine n3 ?_|(first|refine rg 4 [0,1,5] [0,1,5,35] [(9,24)] ?_|refine rg 5 [5] [4] [] ?_|refine nc ?_);simp[hF,dR,hn,hil,h1,h2]
    (try refine nr ?_);(repeat first|refine aF ?_|refine aG ?_);refine ak.o [4] [0] [] ?_;simp[hF,an,aa,ah,dR,hr]
   ·repeat first|refine n1 ?_|refine n2 ?_|refine n3 ?_|refine n4 ?_|refine n5 ?_|refine n6 ?_|(first|refine rg 3 [0,1,5] [0,1,5] [] ?_|refine rg 4 [0,1,5] [0,1,5,35] [(9,24)] ?_|refine nc ?_);simp[hF,dR,hn,hil,h1,h2]
    refine aO.of [0,1,5] [0] (m-1) (by omega) (by simp[hF]) ?_
    refine⟨i+1,by omega,fin (by simp[ia,h2]),?_⟩
    simp[dR]
    exact IntWalk.i64_in _ (by omega)
  ·repeat first|refine n1 ?_|refine n2 ?_|refine n3 ?_|refine n4 ?_|refine n5 ?_|refine n6 ?_|(first|refine rg 3 [0,1,5] [0,1,5] [] ?_|refine rg 4 [0,1,5] [0,1,5,35] [(9,24)] ?_|refine nc ?_);simp[hF,dR,hn,hil,h1]
   refine aO.of [0,1,5] [0] (m-1) (by omega) (by simp[hF]) ?_
   refine⟨i+1,by omega,fin (by simp[ia,h1]),?_⟩
   simp[dR]
   exact IntWalk.i64_in _ (by omega)
 ·have hr:iz R t=-1:=fV fun j h=>hall j h (by omega)
  repeat first|refine n1 ?_|refine n7 ?_|refine rg 6 [] [4] [] ?_;simp[hF]
  (try refine nr ?_);(repeat first|refine aF ?_|refine aG ?_);refine ak.o [4] [0] [] ?_;simp[hF,an,aa,ah,dR,hr]
theorem vV{R:List Th}{r:Int→Nat}(B:ez R r):ai Tryz.prog 51 [dR R] (.cons (.ptr 0 [.d]) .nil)
  fun av X κ=>av=.ptr 1 [.d]∧X=[dR R,dR R]∧κ=[]:=by
 have hL:=B.len
 refine fb Tryz.func51 Tryz.ntmps51 [.tmp 2] fun w0 I0 F0 hF=>?_
 repeat first|refine n1 ?_|(first|refine rg 0 [0] [0] [] ?_|refine rg 1 [0] [0,7] [] ?_);simp[hF]
 refine(vQ R).go [(0,[])] (by simp[hF,dR]) ?_;rintro av X κ ⟨rfl,rfl,rfl⟩;simp[hF,dR]
 repeat first|refine n1 ?_|refine n2 ?_|refine n3 ?_|(first|refine rg 3 [0] [0,3] [] ?_|refine rg 4 [0,3] [0,3,4] [] ?_|refine nc ?_);simp[hF]
 refine VS.rounds (fun m st=>∃(i:Nat) (A:List Th),i+m=R.length∧A=R.take i∧st=⟨[(0,.ptr 0 [.d]),(3,.ptr 1 [.d]),(4,ag i)],[dR R,dR A],[],[]⟩) ⟨R.length,0,[],by omega,rfl,by simp[dR,ie,sq]⟩ ?_
 rintro m st ⟨i,A,hi,hA,rfl⟩
 repeat first|refine n1 ?_|(first|refine rg 5 [0,3,4] [0,3,4,16] [] ?_|refine nc ?_);simp[hF,dR]
 refine⟨fun hlt=>?_,fun hge=>?_⟩
 ·have hil:i<R.length:=by omega
  have hn:=bH hil
  have hx:R[i]? = some R[i]:=List.getElem?_eq_getElem hil
  have h1:=bk R.length (parents R[i]) (B.np _ _ hx) (fun u hu=>by have:=B.gj _ _ hx u (.inr hu);omega)
  have h2:=bk R.length R[i].bU (B.nb _ _ hx) (fun u hu=>by have:=B.gj _ _ hx u (.inl hu);omega)
  have h3:R[i].ins.length≤(parents R[i]).length:=by simp[parents]
  have hAl:A.length=i:=by rw[hA,List.length_take];omega
  have hAs:R.take (i+1)=A++[R[i]]:=by rw[hA,List.take_succ_eq_append_getElem hil]
  generalize R[i]=x at *
  have c1:x.bU.length*8≤140737488355328:=by omega
  have c2:x.bU.length≤9223372036854775807:=by omega
  have c3:x.ins.length*8≤140737488355328:=by omega
  have c4:x.ins.length≤9223372036854775807:=by omega
  have rV:=tu A x
  have hmid:(ie (A++[x])).mid 0 (A.length+1)=ie (A++[x]):=aV _ _ (by simp)
  have b1:(A.length+1)*80≤140737488355328:=by omega
  have b2:A.length+1≤9223372036854775807:=by omega
  repeat first|refine n1 ?_|refine n2 ?_|refine n3 ?_|(first|refine rg 7 [0,3,4] [0,3,4,5] [] ?_|refine rg 8 [0,3,4,5] [0,3,4,5] [] ?_|refine rg 9 [0,3,4,5] [0,3,4,5] [] ?_);simp[hF,dR,hn,hil,c1,c2,c3,c4]
  refine VS.er 2 [.d,.f 4] (by simp[hF,T.freeze]) (by simp[hF,T.freeze]) (by simp[hF,T.freeze]) ?_;simp[hF,St.er,T.freeze]
  refine VS.er 2 [.d,.f 5] (by simp[hF,T.freeze]) (by simp[hF,T.freeze]) (by simp[hF,T.freeze]) ?_;simp[hF,St.er,T.freeze]
  refine eP 1 [.d,.f 1] ?_;simp[hF,St.lift,AV.lift,cJ,cK,dV,isNode,dR]
  repeat first|refine n4 ?_|refine n5 ?_|refine n6 ?_|(first|refine rg 6 [0,3,4] [0,3,4] [] ?_|(refine dr 10 0 [0,3,4,5] [0,3,4] [] [⟨0,8,68719476736,5⟩,⟨0,8,137438953472,5⟩,⟨2,137438953472,274877906944,5⟩,⟨4,274877906944,549755813888,5⟩,⟨8,549755813888,1099511627776,6⟩,⟨0,32,2199023255552,6⟩,⟨32,2199023255552,4398046511104,4⟩,⟨80,5497558138880,8796093022208,0⟩,⟨255,68719476736,17592186044416,5⟩,⟨511,17592186044416,35184372088832,5⟩,⟨767,43980465111040,0,0⟩] (.take 0 (.take 1 (.take 2 (.take 3 (.take 4 (.take 5 (.fork (.alt 6 (.fork (.alt 7 (.take 8 (.take 9 (.fork (.alt 10 (.done) (.nil))))) (.nil))) (.nil))))))))) (.run [0,1,2,3,4,5,6,7,8,9,10] (.done)) ?_;simp only[nD]));simp[hF,dR,rV,hmid,b1,b2]
  (repeat' with_reducible refine And.intro ?_ ?_)
  all_goals
   repeat refine n1 ?_
   refine aO.of [0,3,4] [0,1] (m-1) (by omega) (by simp[hF]) ?_
   refine⟨i+1,A++[x],by omega,hAs.symm,?_⟩
   simp[dR]
   exact IntWalk.i64_in _ (by omega)
 ·obtain rfl:i=R.length:=by omega
  rw[List.take_length] at hA
  subst hA
  repeat first|refine n1 ?_|refine n7 ?_|refine rg 11 [3] [2] [] ?_;simp[hF]
  (try refine nr ?_);(repeat first|refine aF ?_|refine aG ?_);refine ak.o [2] [0,1] [] ?_;simp[hF,an,aa,ah,dR]
theorem Qz{R:List Th}(W:uw R)(hp:0<R.length)(t m:Int)(hB:∀t':Nat,t=t'→t'<R.length→val R m=true→(ax R m).kind=1→bh (ax R t).ins m=false→m≠t→bh (aP R m) t=false→∃r,ez (de R t' (m::(ax R t).ins)) r) :
  ai Tryz.prog 108 [dR R] (.cons (.ptr 0 [.d]) (.cons (ag t) (.cons (ag m) (.cons (aN false) .nil))))
  fun av X κ=>av=ag (dg R t m).2∧X=[dR (dg R t m).1]∧κ=[(0,[.d])]:=by
 obtain⟨r,B⟩:=W.base
 have hl:=B.len
 refine fb Tryz.func108 Tryz.ntmps108 [.tmp 8] fun w0 I0 F0 hF=>?_
 repeat first|refine n1 ?_|(first|refine rg 0 [0,1,2,3] [0,1,2,3] [] ?_|refine rg 1 [0,1,2,3] [0,1,2,3,36] [(4,20),(10,26)] ?_);simp[hF]
 cases hv:val R t with
 | false =>
  have hc:dg R t m=(R,1):=by unfold dg;rw[if_pos (by simp[hv])]
  refine(cR R t).go [(0,[])] (by simp[hF,dR,hv]) ?_;rintro av X κ ⟨rfl,rfl,rfl⟩;simp[hF,dR,hv]
  repeat first|refine n1 ?_|(first|refine rg 2 [] [8] [] ?_|refine nc ?_);simp[hF]
  (try refine nr ?_);(repeat first|refine aF ?_|refine aG ?_);refine ak.o [8] [0] [(0,[.d])] ?_;simp[hF,an,aa,ah,dR,hc]
 | true =>
  obtain⟨t,rfl,ht⟩:=bD hv
  have hn:=bH ht
  have ec:=aQ ht
  refine(cR R t).go [(0,[])] (by simp[hF,dR,hv]) ?_;rintro av X κ ⟨rfl,rfl,rfl⟩;simp[hF,dR,hv]
  cases x9:val R m with
  | false =>
   have hc:dg R t m=(R,1):=by unfold dg;rw[if_pos (by simp[x9])]
   refine(cR R m).go [(0,[])] (by simp[hF,dR,x9]) ?_;rintro av X κ ⟨rfl,rfl,rfl⟩;simp[hF,dR,x9]
   repeat first|refine n1 ?_|(first|refine rg 2 [] [8] [] ?_|refine nc ?_);simp[hF]
   (try refine nr ?_);(repeat first|refine aF ?_|refine aG ?_);refine ak.o [8] [0] [(0,[.d])] ?_;simp[hF,an,aa,ah,dR,hc]
  | true =>
   obtain⟨m,rfl,hm⟩:=bD x9
   have hnm:=bH hm
   have Gd:=aQ hm
   by_cases hk:R[m].kind=1
   ·have h0:¬(val R t&&(val R m&&decide ((ax R m).kind=1)))=false:=by rw[hv,x9,Gd,hk];simp
    have hlen:R[t].ins.length≤1000:=by
     have hx:R[t]? = some R[t]:=List.getElem?_eq_getElem ht
     have h1:=bk R.length (parents R[t]) (B.np _ _ hx) (fun u hu=>by have:=B.gj _ _ hx u (.inr hu);omega)
     have h2:=bk R.length R[t].bU (B.nb _ _ hx) (fun u hu=>by have:=B.gj _ _ hx u (.inl hu);omega)
     have h3:R[t].ins.length≤(parents R[t]).length:=by simp[parents]
     omega
    refine(cR R m).go [(0,[])] (by simp[hF,dR,x9,hnm,hm,hk]) ?_;rintro av X κ ⟨rfl,rfl,rfl⟩;simp[hF,dR,x9,hnm,hm,hk]
    repeat first|refine n1 ?_|refine n2 ?_|(first|refine rg 3 [0,1,2,3] [0,1,2,3,9] [] ?_|refine rg 4 [0,1,2,3,9] [0,1,2,3,9,45] [] ?_|refine rg 6 [0,1,2,3,9] [0,1,2,3,9,56] [] ?_|refine nc ?_);simp[hF,dR,hn,ht]
    refine(tE false R[t].ins m (by omega)).go [] (by simp[hF,dR]) ?_;rintro av X κ ⟨rfl,rfl,rfl⟩;simp[hF,dR]
    cases hd:bh R[t].ins m with
    | true =>
     have hc:dg R t m=(R,7):=by unfold dg;rw[if_neg h0,ec,if_pos hd]
     repeat first|refine n1 ?_|(first|refine rg 7 [] [8] [] ?_|refine nc ?_);simp[hF,hd]
     (try refine nr ?_);(repeat first|refine aF ?_|refine aG ?_);refine ak.o [8] [0] [(0,[.d])] ?_;simp[hF,an,aa,ah,dR,hc]
    | false =>
     have hd':¬bh (ax R t).ins m=true:=by rw[ec,hd];simp
     have va:(aP R m).length≤1000:=dW B hm (W.ord hm)
     have hno:=vU hm
     have uv:(oX R).length=R.length:=by simp[oX]
     repeat first|refine n1 ?_|refine n2 ?_|(first|refine rg 8 [0,1,2,3,9] [0,1,2,3,9,10] [] ?_|refine nc ?_);simp[hF,hd]
     refine(qT W hp).go [(0,[])] (by simp[hF,dR,dO]) ?_;rintro av X κ ⟨kn,rfl,rfl,rfl⟩;simp[hF,dR,dO]
     by_cases qz:(m:Int)=(t:Int)
     ·have hc:dg R t m=(R,10):=by unfold dg;rw[if_neg h0,if_neg hd',if_pos (.inl qz)]
      repeat first|refine n1 ?_|(first|refine rg 9 [0,1,2,3,9,10] [0,1,2,3,9,72] [(3,65)] ?_|refine rg 10 [] [8] [] ?_|refine nc ?_);simp[hF,qz]
      (try refine nr ?_);(repeat first|refine aF ?_|refine aG ?_);refine ak.o [8] [0] [(0,[.d])] ?_;simp[hF,an,aa,ah,dR,hc]
     ·repeat first|refine n1 ?_|refine rg 9 [0,1,2,3,9,10] [0,1,2,3,9,72] [(3,65)] ?_;simp[hF,qz,hno,uv,hm]
      refine(tE false (aP R m) t (by omega)).go [] (by simp[hF,dR]) ?_;rintro av X κ ⟨rfl,rfl,rfl⟩;simp[hF,dR]
      cases hh:bh (aP R m) t with
      | true =>
       have hc:dg R t m=(R,10):=by unfold dg;rw[if_neg h0,if_neg hd',if_pos (.inr hh)]
       repeat first|refine n1 ?_|(first|refine rg 10 [] [8] [] ?_|refine nc ?_);simp[hF,hh]
       (try refine nr ?_);(repeat first|refine aF ?_|refine aG ?_);refine ak.o [8] [0] [(0,[.d])] ?_;simp[hF,an,aa,ah,dR,hc]
      | false =>
       have h3:¬((m:Int)=t∨bh (aP R m) t=true):=by rw[hh];simp[qz]
       obtain⟨r2,B2⟩:=hB t rfl ht x9 (by rw[Gd];exact hk) (by rw[ec];exact hd) qz hh
       have CC:=lq ht ((m:Int)::R[t].ins)
       have dB:=iS R t { R[t] with ins:=(m:Int)::R[t].ins }
       rw[←CC] at dB
       have hw0:de R t ((m:Int)::R[t].ins)=de R (t:Int).toNat ((m:Int)::(ax R t).ins):=by rw[ec];rfl
       rw[ec] at B2
       have hl2:(de R t ((m:Int)::R[t].ins)).length=R.length:=by rw[CC];simp
       have hcN:¬(∀k:Nat,k<R.length→∃o,aE (de R t ((m:Int)::R[t].ins)) k=some o)→dg R t m=(R,10):=fun h=>by unfold dg;rw[if_neg h0,if_neg hd',if_neg h3,←hw0,if_neg h]
       have hcY:(∀k:Nat,k<R.length→∃o,aE (de R t ((m:Int)::R[t].ins)) k=some o)→dg R t m=(de R t ((m:Int)::R[t].ins),0):=fun h=>by unfold dg;rw[if_neg h0,if_neg hd',if_neg h3,←hw0,if_pos h]
       generalize de R t ((m:Int)::R[t].ins)=R2 at *
       have dD:(T.cons (.val (.int .i64 (m:Int))) .nil:D).app (aj R[t].ins)=aj ((m:Int)::R[t].ins):=kS [(m:Int)] R[t].ins
       have hmid:(aj ((m:Int)::R[t].ins)).mid 0 (1+R[t].ins.length)=aj ((m:Int)::R[t].ins):=aV _ _ (by simp;omega)
       have c3:(1+R[t].ins.length)*8≤140737488355328:=by omega
       have c4:1+R[t].ins.length≤9223372036854775807:=by omega
       repeat first|refine n1 ?_|refine n2 ?_|(first|refine rg 11 [0,1,2,3,9] [0,1,2,3,9,12] [] ?_|refine nc ?_);simp[hF,hh]
       refine(vV B).go [(0,[])] (by simp[hF,dR]) ?_;rintro av X κ ⟨rfl,rfl,rfl⟩;simp[hF,dR]
       clear hd' h3 h0 hh qz CC hw0 hd hB
       apply merged
       ·intro key
        by_cases hz:0<R[t].ins.length
        ·repeat first|refine n1 ?_|refine rg 12 [0,1,2,3,9,12] [0,1,3,12,13] [] ?_;simp[hF,dR,hn,ht,dD,c3,c4,hz]
         refine VS.fl 13 (by simp[hF,hmid]) ?_;simp[hF,St.fl,hmid]
         repeat first|refine n1 ?_|(first|refine rg 13 [0,1,3,12,13] [0,1,12,13,79] [] ?_|refine rg 15 [0,1,12,13] [0,12] [] ?_|refine nc ?_);simp[hF,dR,hn,ht,dB]
         refine VS.pick [0,12] [0,2] (by simp[hF]) ?_;simp[hF]
         exact key ()
        ·have he:R[t].ins=[]:=List.eq_nil_of_length_eq_zero (by omega)
         have CT:=dB
         simp only[he,dG] at CT
         have FK:=hn
         rw[he] at FK
         repeat first|refine n1 ?_|refine rg 12 [0,1,2,3,9,12] [0,1,3,12,13] [] ?_;simp[hF,dR,FK,ht,hz,he]
         refine VS.fl 13 (by simp[hF,T.freeze]) ?_;simp[hF,St.fl,T.freeze]
         repeat first|refine n1 ?_|(first|refine rg 13 [0,1,3,12,13] [0,1,12,13,79] [] ?_|refine rg 15 [0,1,12,13] [0,12] [] ?_|refine nc ?_);simp[hF,dR,FK,ht,CT]
         refine VS.pick [0,12] [0,2] (by simp[hF]) ?_;simp[hF]
         exact key ()
       by_cases hall:∀k:Nat,k<R.length→∃o,aE R2 k=some o
       ·have hc:=hcY hall
        rw[←hl2] at hall
        repeat first|refine rg 16 [0,12] [0,12,15] [] ?_;simp[hF]
        refine(vS B2 (by omega) hall).go [(1,[])] (by simp[hF,dR,dO]) ?_;rintro av X κ ⟨kn2,rfl,rfl,rfl⟩;simp[hF,dR,dO]
        repeat first|refine n1 ?_|refine n2 ?_|(first|refine rg 17 [0,12,15] [0,12,102] [] ?_|refine nc ?_);simp[hF]
        refine eP 1 [.d,.f 1] ?_;simp[hF,St.lift,AV.lift,cJ,cK,dV,isNode,dR]
        have hmr:(ie R2).mid 0 R.length=ie R2:=aV _ _ (by simp[hl2])
        repeat first|refine n1 ?_|(first|refine rg 19 [0,12] [] [] ?_|refine rg 20 [] [8] [] ?_);simp[hF,dR,hl2,hmr]
        (try refine nr ?_);(repeat first|refine aF ?_|refine aG ?_);refine ak.o [8] [0] [(0,[.d])] ?_;simp[hF,an,aa,ah,dR,hc]
       ·have hc:=hcN hall
        rw[←hl2] at hall
        repeat first|refine rg 16 [0,12] [0,12,15] [] ?_;simp[hF]
        refine(vT B2 (by omega) hall).go [(1,[])] (by simp[hF,dR]) ?_;rintro av X κ ⟨rfl,rfl,rfl⟩;simp[hF,dR]
        repeat first|refine n1 ?_|(first|refine rg 17 [0,12,15] [0,12,102] [] ?_|refine rg 18 [] [8] [] ?_|refine nc ?_);simp[hF]
        (try refine nr ?_);(repeat first|refine aF ?_|refine aG ?_);refine ak.o [8] [0] [(0,[.d])] ?_;simp[hF,an,aa,ah,dR,hc]
   ·have hc:dg R t m=(R,1):=by unfold dg;rw[if_pos (by rw[Gd];simp[hk])]
    refine(cR R m).go [(0,[])] (by simp[hF,dR,x9,hnm,hm,hk]) ?_;rintro av X κ ⟨rfl,rfl,rfl⟩;simp[hF,dR,x9,hnm,hm,hk]
    repeat first|refine n1 ?_|(first|refine rg 2 [] [8] [] ?_|refine nc ?_);simp[hF]
    (try refine nr ?_);(repeat first|refine aF ?_|refine aG ?_);refine ak.o [8] [0] [(0,[.d])] ?_;simp[hF,an,aa,ah,dR,hc]
theorem QA{R:List Th}(W:uw R)(hp:0<R.length)(t m:Int)(hB:∀t':Nat,t=t'→t'<R.length→val R m=true→(ax R m).kind=1→bh (ax R t).bU m=false→m≠t→bh (aP R m) t=false→∃r,ez (cH R t' (m::(ax R t).bU)) r) :
  ai Tryz.prog 108 [dR R] (.cons (.ptr 0 [.d]) (.cons (ag t) (.cons (ag m) (.cons (aN true) .nil))))
  fun av X κ=>av=ag (dh R t m).2∧X=[dR (dh R t m).1]∧κ=[(0,[.d])]:=by
 obtain⟨r,B⟩:=W.base
 have hl:=B.len
 refine fb Tryz.func108 Tryz.ntmps108 [.tmp 8] fun w0 I0 F0 hF=>?_
 repeat first|refine n1 ?_|(first|refine rg 0 [0,1,2,3] [0,1,2,3] [] ?_|refine rg 1 [0,1,2,3] [0,1,2,3,36] [(4,20),(10,26)] ?_);simp[hF]
 cases hv:val R t with
 | false =>
  have hc:dh R t m=(R,1):=by unfold dh;rw[if_pos (by simp[hv])]
  refine(cR R t).go [(0,[])] (by simp[hF,dR,hv]) ?_;rintro av X κ ⟨rfl,rfl,rfl⟩;simp[hF,dR,hv]
  repeat first|refine n1 ?_|(first|refine rg 2 [] [8] [] ?_|refine nc ?_);simp[hF]
  (try refine nr ?_);(repeat first|refine aF ?_|refine aG ?_);refine ak.o [8] [0] [(0,[.d])] ?_;simp[hF,an,aa,ah,dR,hc]
 | true =>
  obtain⟨t,rfl,ht⟩:=bD hv
  have hn:=bH ht
  have ec:=aQ ht
  refine(cR R t).go [(0,[])] (by simp[hF,dR,hv]) ?_;rintro av X κ ⟨rfl,rfl,rfl⟩;simp[hF,dR,hv]
  cases x9:val R m with
  | false =>
   have hc:dh R t m=(R,1):=by unfold dh;rw[if_pos (by simp[x9])]
   refine(cR R m).go [(0,[])] (by simp[hF,dR,x9]) ?_;rintro av X κ ⟨rfl,rfl,rfl⟩;simp[hF,dR,x9]
   repeat first|refine n1 ?_|(first|refine rg 2 [] [8] [] ?_|refine nc ?_);simp[hF]
   (try refine nr ?_);(repeat first|refine aF ?_|refine aG ?_);refine ak.o [8] [0] [(0,[.d])] ?_;simp[hF,an,aa,ah,dR,hc]
  | true =>
   obtain⟨m,rfl,hm⟩:=bD x9
   have hnm:=bH hm
   have Gd:=aQ hm
   by_cases hk:R[m].kind=1
   ·have h0:¬(val R t&&(val R m&&decide ((ax R m).kind=1)))=false:=by rw[hv,x9,Gd,hk];simp
    have hlen:R[t].bU.length≤1000:=by
     have hx:R[t]? = some R[t]:=List.getElem?_eq_getElem ht
     have h1:=bk R.length (parents R[t]) (B.np _ _ hx) (fun u hu=>by have:=B.gj _ _ hx u (.inr hu);omega)
     have h2:=bk R.length R[t].bU (B.nb _ _ hx) (fun u hu=>by have:=B.gj _ _ hx u (.inl hu);omega)
     have h3:R[t].ins.length≤(parents R[t]).length:=by simp[parents]
     omega
    refine(cR R m).go [(0,[])] (by simp[hF,dR,x9,hnm,hm,hk]) ?_;rintro av X κ ⟨rfl,rfl,rfl⟩;simp[hF,dR,x9,hnm,hm,hk]
    repeat first|refine n1 ?_|refine n2 ?_|(first|refine rg 3 [0,1,2,3] [0,1,2,3,9] [] ?_|refine rg 4 [0,1,2,3,9] [0,1,2,3,9,45] [] ?_|refine rg 5 [0,1,2,3] [0,1,2,3,9] [] ?_|refine rg 6 [0,1,2,3,9] [0,1,2,3,9,56] [] ?_|refine nc ?_);simp[hF,dR,hn,ht]
    refine(tE false R[t].bU m (by omega)).go [] (by simp[hF,dR]) ?_;rintro av X κ ⟨rfl,rfl,rfl⟩;simp[hF,dR]
    cases hd:bh R[t].bU m with
    | true =>
     have hc:dh R t m=(R,7):=by unfold dh;rw[if_neg h0,ec,if_pos hd]
     repeat first|refine n1 ?_|(first|refine rg 7 [] [8] [] ?_|refine nc ?_);simp[hF,hd]
     (try refine nr ?_);(repeat first|refine aF ?_|refine aG ?_);refine ak.o [8] [0] [(0,[.d])] ?_;simp[hF,an,aa,ah,dR,hc]
    | false =>
     have hd':¬bh (ax R t).bU m=true:=by rw[ec,hd];simp
     have va:(aP R m).length≤1000:=dW B hm (W.ord hm)
     have hno:=vU hm
     have uv:(oX R).length=R.length:=by simp[oX]
     repeat first|refine n1 ?_|refine n2 ?_|(first|refine rg 8 [0,1,2,3,9] [0,1,2,3,9,10] [] ?_|refine nc ?_);simp[hF,hd]
     refine(qT W hp).go [(0,[])] (by simp[hF,dR,dO]) ?_;rintro av X κ ⟨kn,rfl,rfl,rfl⟩;simp[hF,dR,dO]
     by_cases qz:(m:Int)=(t:Int)
     ·have hc:dh R t m=(R,10):=by unfold dh;rw[if_neg h0,if_neg hd',if_pos (.inl qz)]
      repeat first|refine n1 ?_|(first|refine rg 9 [0,1,2,3,9,10] [0,1,2,3,9,72] [(3,65)] ?_|refine rg 10 [] [8] [] ?_|refine nc ?_);simp[hF,qz]
      (try refine nr ?_);(repeat first|refine aF ?_|refine aG ?_);refine ak.o [8] [0] [(0,[.d])] ?_;simp[hF,an,aa,ah,dR,hc]
     ·repeat first|refine n1 ?_|refine rg 9 [0,1,2,3,9,10] [0,1,2,3,9,72] [(3,65)] ?_;simp[hF,qz,hno,uv,hm]
      refine(tE false (aP R m) t (by omega)).go [] (by simp[hF,dR]) ?_;rintro av X κ ⟨rfl,rfl,rfl⟩;simp[hF,dR]
      cases hh:bh (aP R m) t with
      | true =>
       have hc:dh R t m=(R,10):=by unfold dh;rw[if_neg h0,if_neg hd',if_pos (.inr hh)]
       repeat first|refine n1 ?_|(first|refine rg 10 [] [8] [] ?_|refine nc ?_);simp[hF,hh]
       (try refine nr ?_);(repeat first|refine aF ?_|refine aG ?_);refine ak.o [8] [0] [(0,[.d])] ?_;simp[hF,an,aa,ah,dR,hc]
      | false =>
       have h3:¬((m:Int)=t∨bh (aP R m) t=true):=by rw[hh];simp[qz]
       obtain⟨r2,B2⟩:=hB t rfl ht x9 (by rw[Gd];exact hk) (by rw[ec];exact hd) qz hh
       have CC:=lu ht ((m:Int)::R[t].bU)
       have dB:=iS R t { R[t] with bU:=(m:Int)::R[t].bU }
       rw[←CC] at dB
       have hw0:cH R t ((m:Int)::R[t].bU)=cH R (t:Int).toNat ((m:Int)::(ax R t).bU):=by rw[ec];rfl
       rw[ec] at B2
       have hl2:(cH R t ((m:Int)::R[t].bU)).length=R.length:=by rw[CC];simp
       have hcN:¬(∀k:Nat,k<R.length→∃o,aE (cH R t ((m:Int)::R[t].bU)) k=some o)→dh R t m=(R,10):=fun h=>by unfold dh;rw[if_neg h0,if_neg hd',if_neg h3,←hw0,if_neg h]
       have hcY:(∀k:Nat,k<R.length→∃o,aE (cH R t ((m:Int)::R[t].bU)) k=some o)→dh R t m=(cH R t ((m:Int)::R[t].bU),0):=fun h=>by unfold dh;rw[if_neg h0,if_neg hd',if_neg h3,←hw0,if_pos h]
       generalize cH R t ((m:Int)::R[t].bU)=R2 at *
       have dD:(T.cons (.val (.int .i64 (m:Int))) .nil:D).app (aj R[t].bU)=aj ((m:Int)::R[t].bU):=kS [(m:Int)] R[t].bU
       have hmid:(aj ((m:Int)::R[t].bU)).mid 0 (1+R[t].bU.length)=aj ((m:Int)::R[t].bU):=aV _ _ (by simp;omega)
       have c3:(1+R[t].bU.length)*8≤140737488355328:=by omega
       have c4:1+R[t].bU.length≤9223372036854775807:=by omega
       repeat first|refine n1 ?_|refine n2 ?_|(first|refine rg 11 [0,1,2,3,9] [0,1,2,3,9,12] [] ?_|refine nc ?_);simp[hF,hh]
       refine(vV B).go [(0,[])] (by simp[hF,dR]) ?_;rintro av X κ ⟨rfl,rfl,rfl⟩;simp[hF,dR]
       clear hd' h3 h0 hh qz CC hw0 hd hB
       apply merged
       ·intro key
        by_cases hz:0<R[t].bU.length
        ·repeat first|refine n1 ?_|refine rg 12 [0,1,2,3,9,12] [0,1,3,12,13] [] ?_;simp[hF,dR,hn,ht,dD,c3,c4,hz]
         refine VS.fl 13 (by simp[hF,hmid]) ?_;simp[hF,St.fl,hmid]
         repeat first|refine n1 ?_|(first|refine rg 13 [0,1,3,12,13] [0,1,12,13,79] [] ?_|refine rg 14 [0,1,12,13] [0,12] [] ?_|refine nc ?_);simp[hF,dR,hn,ht,dB]
         refine VS.pick [0,12] [0,2] (by simp[hF]) ?_;simp[hF]
         exact key ()
        ·have he:R[t].bU=[]:=List.eq_nil_of_length_eq_zero (by omega)
         have CT:=dB
         simp only[he,dG] at CT
         have FK:=hn
         rw[he] at FK
         repeat first|refine n1 ?_|refine rg 12 [0,1,2,3,9,12] [0,1,3,12,13] [] ?_;simp[hF,dR,FK,ht,hz,he]
         refine VS.fl 13 (by simp[hF,T.freeze]) ?_;simp[hF,St.fl,T.freeze]
         repeat first|refine n1 ?_|(first|refine rg 13 [0,1,3,12,13] [0,1,12,13,79] [] ?_|refine rg 14 [0,1,12,13] [0,12] [] ?_|refine nc ?_);simp[hF,dR,FK,ht,CT]
         refine VS.pick [0,12] [0,2] (by simp[hF]) ?_;simp[hF]
         exact key ()
       by_cases hall:∀k:Nat,k<R.length→∃o,aE R2 k=some o
       ·have hc:=hcY hall
        rw[←hl2] at hall
        repeat first|refine rg 16 [0,12] [0,12,15] [] ?_;simp[hF]
        refine(vS B2 (by omega) hall).go [(1,[])] (by simp[hF,dR,dO]) ?_;rintro av X κ ⟨kn2,rfl,rfl,rfl⟩;simp[hF,dR,dO]
        repeat first|refine n1 ?_|refine n2 ?_|(first|refine rg 17 [0,12,15] [0,12,102] [] ?_|refine nc ?_);simp[hF]
        refine eP 1 [.d,.f 1] ?_;simp[hF,St.lift,AV.lift,cJ,cK,dV,isNode,dR]
        have hmr:(ie R2).mid 0 R.length=ie R2:=aV _ _ (by simp[hl2])
        repeat first|refine n1 ?_|(first|refine rg 19 [0,12] [] [] ?_|refine rg 20 [] [8] [] ?_);simp[hF,dR,hl2,hmr]
        (try refine nr ?_);(repeat first|refine aF ?_|refine aG ?_);refine ak.o [8] [0] [(0,[.d])] ?_;simp[hF,an,aa,ah,dR,hc]
       ·have hc:=hcN hall
        rw[←hl2] at hall
        repeat first|refine rg 16 [0,12] [0,12,15] [] ?_;simp[hF]
        refine(vT B2 (by omega) hall).go [(1,[])] (by simp[hF,dR]) ?_;rintro av X κ ⟨rfl,rfl,rfl⟩;simp[hF,dR]
        repeat first|refine n1 ?_|(first|refine rg 17 [0,12,15] [0,12,102] [] ?_|refine rg 18 [] [8] [] ?_|refine nc ?_);simp[hF]
        (try refine nr ?_);(repeat first|refine aF ?_|refine aG ?_);refine ak.o [8] [0] [(0,[.d])] ?_;simp[hF,an,aa,ah,dR,hc]
   ·have hc:dh R t m=(R,1):=by unfold dh;rw[if_pos (by rw[Gd];simp[hk])]
    refine(cR R m).go [(0,[])] (by simp[hF,dR,x9,hnm,hm,hk]) ?_;rintro av X κ ⟨rfl,rfl,rfl⟩;simp[hF,dR,x9,hnm,hm,hk]
    repeat first|refine n1 ?_|(first|refine rg 2 [] [8] [] ?_|refine nc ?_);simp[hF]
    (try refine nr ?_);(repeat first|refine aF ?_|refine aG ?_);refine ak.o [8] [0] [(0,[.d])] ?_;simp[hF,an,aa,ah,dR,hc]
theorem CU{R:List Th}(W:uw R)(hp:0<R.length)(t m:Int)(hB:∀t':Nat,t=t'→t'<R.length→val R m=true→(ax R m).kind=1→bh (ax R t).ins m=false→m≠t→bh (aP R m) t=false→∃r,ez (de R t' (m::(ax R t).ins)) r) :
  ai Tryz.prog 63 [dR R] (.cons (.ptr 0 [.d]) (.cons (ag t) (.cons (ag m) .nil)))
  fun av X κ=>av=ag (dg R t m).2∧X=[dR (dg R t m).1]∧κ=[(0,[.d])]:=by
 refine fb Tryz.func63 Tryz.ntmps63 [.tmp 6] fun w0 I0 F0 hF=>?_
 repeat first|refine n1 ?_|(first|refine rg 0 [0,1,2] [0,1,2] [] ?_|refine rg 1 [0,1,2] [6] [] ?_);simp[hF]
 refine(Qz W hp t m hB).go [(0,[])] (by simp[hF,dR]) ?_;rintro av X κ ⟨rfl,rfl,rfl⟩;simp[hF,dR]
 repeat refine n1 ?_
 (try refine nr ?_);(repeat first|refine aF ?_|refine aG ?_);refine ak.o [6] [0] [(0,[.d])] ?_;simp[hF,an,aa,ah,dR]
theorem CV{R:List Th}(W:uw R)(hp:0<R.length)(t m:Int)(hB:∀t':Nat,t=t'→t'<R.length→val R m=true→(ax R m).kind=1→bh (ax R t).bU m=false→m≠t→bh (aP R m) t=false→∃r,ez (cH R t' (m::(ax R t).bU)) r) :
  ai Tryz.prog 65 [dR R] (.cons (.ptr 0 [.d]) (.cons (ag t) (.cons (ag m) .nil)))
  fun av X κ=>av=ag (dh R t m).2∧X=[dR (dh R t m).1]∧κ=[(0,[.d])]:=by
 refine fb Tryz.func65 Tryz.ntmps65 [.tmp 6] fun w0 I0 F0 hF=>?_
 repeat first|refine n1 ?_|(first|refine rg 0 [0,1,2] [0,1,2] [] ?_|refine rg 1 [0,1,2] [6] [] ?_);simp[hF]
 refine(QA W hp t m hB).go [(0,[])] (by simp[hF,dR]) ?_;rintro av X κ ⟨rfl,rfl,rfl⟩;simp[hF,dR]
 repeat refine n1 ?_
 (try refine nr ?_);(repeat first|refine aF ?_|refine aG ?_);refine ak.o [6] [0] [(0,[.d])] ?_;simp[hF,an,aa,ah,dR]
theorem yW{R:List Th}{r:Int→Nat}(U:Zw R r):∀(n:Nat) (c:Int),(c<0∨c<R.length)→∀w∈eA n R c,0≤w∧w<R.length
 | 0,_,_,w,hw=>by cases hw
 | n+1,c,hc,w,hw=>by
  unfold eA at hw
  split at hw
  ·cases hw
  ·rename_i h0
   split at hw
   ·cases hw
   ·have qy:c<R.length:=hc.resolve_left h0
    rcases List.mem_cons.1 hw with rfl|hw
    ·exact⟨by omega,qy⟩
    ·refine yW U n _ ?_ w hw
     by_cases hs:(ax R c).sup<0
     ·exact .inl hs
     ·exact .inr (U.up c.toNat _ (mR (by omega) qy) (by omega)).1
theorem VJ(R:List Th)(l:List Int):(l.foldl xR R).length=R.length+l.length:=by
 induction l generalizing R with
 | nil=>simp
 | cons a l ih=>rw[List.foldl_cons,ih];simp[xR];omega
theorem QB{l:List Int}{i:Nat}(h:i<l.length)(R:List Th):(l.drop i).reverse.foldl xR R=xR ((l.drop (i+1)).reverse.foldl xR R) l[i]:=by
 rw[List.drop_eq_getElem_cons h,List.reverse_cons,List.foldl_append];rfl
theorem VK{R:List Th}{r:Int→Nat}(U:Zw R r)(hr:∀t,r t≤1000)(t:Int):ai Tryz.prog 67 [dR R] (.cons (.ptr 0 [.d]) (.cons (ag t) .nil))
  fun av X κ=>av=two (dJ R t).2∧X=[dR (dJ R t).1]∧κ=[(0,[.d])]:=by
 have hl:=U.len
 refine fb Tryz.func67 Tryz.ntmps67 [.tmp 4,.tmp 5] fun w0 I0 F0 hF=>?_
 repeat first|refine n1 ?_|(first|refine rg 0 [0,1] [0,1] [] ?_|refine rg 1 [0,1] [0,1,25] [(4,15)] ?_);simp[hF]
 cases hv:val R t with
 | false =>
  have hc:dJ R t=(R,0,1):=by unfold dJ;rw[if_pos (.inl hv)]
  refine(cR R t).go [(0,[])] (by simp[hF,dR,hv]) ?_;rintro av X κ ⟨rfl,rfl,rfl⟩;simp[hF,dR,hv]
  repeat first|refine n1 ?_|(first|refine rg 2 [] [4,5] [] ?_|refine nc ?_);simp[hF]
  (try refine nr ?_);(repeat first|refine aF ?_|refine aG ?_);refine ak.o [4,5] [0] [(0,[.d])] ?_;simp[hF,an,aa,ah,dR,hc]
 | true =>
  obtain⟨t,rfl,ht⟩:=bD hv
  have hn:=bH ht
  have ec:=aQ ht
  by_cases h2:R[t].kind=2
  ·have hc:dJ R t=(R,0,1):=by unfold dJ;rw[if_pos (.inr (by rw[ec];exact h2))]
   refine(cR R t).go [(0,[])] (by simp[hF,dR,hv,hn,ht,h2]) ?_;rintro av X κ ⟨rfl,rfl,rfl⟩;simp[hF,dR,hv,hn,ht,h2]
   repeat first|refine n1 ?_|(first|refine rg 2 [] [4,5] [] ?_|refine nc ?_);simp[hF]
   (try refine nr ?_);(repeat first|refine aF ?_|refine aG ?_);refine ak.o [4,5] [0] [(0,[.d])] ?_;simp[hF,an,aa,ah,dR,hc]
  ·have hnot:¬(val R t=false∨(ax R t).kind=2):=by rw[hv,ec];simp[h2]
   refine(cR R t).go [(0,[])] (by simp[hF,dR,hv,hn,ht,h2]) ?_;rintro av X κ ⟨rfl,rfl,rfl⟩;simp[hF,dR,hv,hn,ht,h2]
   repeat first|refine n1 ?_|refine n2 ?_|(first|refine rg 3 [0,1] [0,1,6] [] ?_|refine nc ?_);simp[hF]
   refine(oY R (by omega) t).go [(0,[])] (by simp[hF,dR]) ?_;rintro av X κ ⟨rfl,rfl,rfl⟩;simp[hF,dR]
   by_cases h3:0≤iz R t
   ·have hc:dJ R t=(R,iz R t,0):=by unfold dJ;rw[if_neg hnot,if_pos h3]
    repeat first|refine n1 ?_|(first|refine rg 4 [0,1,6] [0,1,6,30] [] ?_|refine rg 5 [6] [4,5] [] ?_|refine nc ?_);simp[hF,h3]
    (try refine nr ?_);(repeat first|refine aF ?_|refine aG ?_);refine ak.o [4,5] [0] [(0,[.d])] ?_;simp[hF,an,aa,ah,dR,hc]
   ·have hrt:=hr t
    repeat first|refine n1 ?_|refine n2 ?_|(first|refine rg 4 [0,1,6] [0,1,6,30] [] ?_|refine rg 6 [0,1] [0,1,7] [] ?_|refine nc ?_);simp[hF,h3]
    refine VS.eT 7 1 (by simp) ?_
    repeat first|refine n3 ?_|refine rg 7 [0,1,7] [0,1,7,8] [] ?_;simp[hF]
    obtain⟨W,hW⟩:∃W,W=eA 1001 R t:=⟨_,rfl⟩
    have hWm:=yW U 1001 t (.inr (by omega))
    refine VS.pick [0,1,7,8] [0,1] (by simp[hF]) ?_;simp[hF]
    refine VS.rounds (fun m st=>∃(pre:List Int) (c:Int),W=pre++eA m R c∧pre.length+m=1001∧(c<0∨c<R.length∧r c<m) ∧
     st=⟨[(0,.ptr 0 [.d]),(1,ag t),(7,.sub 1 [] 0 pre.length false),(8,ag c)],[dR R,.sl true () 1 (aj pre)],[],[]⟩) ⟨1001,[],t,hW,rfl,.inr ⟨by omega,by omega⟩,by simp[dR]⟩ ?_
    rintro m st ⟨pre,c,hpre,hpm,hcv,rfl⟩
    by_cases VL:0≤c∧iz R c<0
    ·obtain⟨hc0,hco⟩:=VL
     obtain⟨k,rfl⟩:∃k:Nat,c=k:=⟨c.toNat,by omega⟩
     obtain⟨mc,hkr⟩:=hcv.resolve_left (by omega)
     have VM:k<R.length:=by omega
     obtain⟨m,rfl⟩:∃m',m=m'+1:=⟨m-1,by omega⟩
     have Va:eA (m+1) R k=(k:Int)::eA m R (ax R k).sup:=by rw[eA,if_neg (by omega),if_neg (by omega)]
     have hkn:=bH VM
     have afM:=aQ VM
     have dD:=fK pre k
     have b1:(pre.length+1)*8≤140737488355328:=by omega
     have b2:pre.length+1≤9223372036854775807:=by omega
     have hmid:=gU (pre++[(k:Int)])
     rw[Va,afM] at hpre
     repeat first|refine n1 ?_|refine rg 8 [0,1,7,8] [0,1,7,8,40] [(2,35)] ?_;simp[hF]
     refine(oY R (by omega) k).go [(0,[])] (by simp[hF,dR,hco]) ?_;rintro av X κ ⟨rfl,rfl,rfl⟩;simp[hF,dR,hco]
     repeat first|refine n1 ?_|refine n2 ?_|refine n3 ?_|refine n4 ?_|refine n5 ?_|refine n6 ?_|(first|refine rg 9 [0,1,7,8] [0,1,7,8] [] ?_|refine rg 10 [0,1,7,8] [0,1,7,8] [] ?_|refine nc ?_);simp[hF,dR,hkn,VM,dD,b1,b2]
     refine aO.of [0,1,7,8] [0,1] (m) (by omega) (by simp[hF]) ?_
     refine⟨pre++[(k:Int)],R[k].sup,by rw[hpre];simp,by simp;omega,?_,?_⟩
     ·by_cases hs:R[k].sup<0
      ·exact .inl hs
      ·have:=U.up k _ (List.getElem?_eq_getElem VM) (by omega)
       exact .inr ⟨this.1,by omega⟩
     ·simp[dR]
    ·have hend:eA m R c=[]:=by
      cases m with
      | zero=>rfl
      | succ m =>
       rw[eA]
       by_cases hc0:c<0
       ·rw[if_pos hc0]
       ·rw[if_neg hc0,if_pos (by omega)]
     rw[hend,List.append_nil] at hpre
     subst hpre
     have hWl:W.length≤1001:=by omega
     apply merged
     ·intro key
      by_cases hc0:c<0
      ·have ZI:¬0≤c:=by omega
       repeat first|refine n1 ?_|refine n7 ?_|(first|refine rg 8 [0,1,7,8] [0,1,7,8,40] [(2,35)] ?_|refine nc ?_);simp[hF,ZI]
       refine VS.pick [0,1,7] [0,1] (by simp[hF]) ?_;simp[hF]
       exact key ()
      ·have ZI:0≤c:=by omega
       have hco:¬iz R c<0:=by omega
       repeat first|refine n1 ?_|refine rg 8 [0,1,7,8] [0,1,7,8,40] [(2,35)] ?_;simp[hF,ZI]
       refine(oY R (by omega) c).go [(0,[])] (by simp[hF,dR,hco]) ?_;rintro av X κ ⟨rfl,rfl,rfl⟩;simp[hF,dR,hco]
       repeat first|refine n1 ?_|refine n7 ?_|refine nc ?_;simp[hF]
       refine VS.pick [0,1,7] [0,1] (by simp[hF]) ?_;simp[hF]
       exact key ()
     have hw1:IntKind.i64.wrap ((R.length:Int)+W.length)=R.length+W.length:=IntWalk.i64_in _ (by omega)
     by_cases hf:1000<R.length+W.length
     ·have hc:dJ R t=(R,0,9):=by unfold dJ;rw[if_neg hnot,if_neg h3,if_pos (by rw[←hW];exact hf)]
      have hf':(1000:Int)<(R.length:Int)+W.length:=by omega
      repeat first|refine n1 ?_|(first|refine rg 11 [0,1,7] [0,1,7,61] [] ?_|refine rg 12 [] [4,5] [] ?_|refine nc ?_);simp[hF,dR,hw1,hf']
      (try refine nr ?_);(repeat first|refine aF ?_|refine aG ?_);refine ak.o [4,5] [0] [(0,[.d])] ?_;simp[hF,an,aa,ah,dR,hc]
     ·have hc:dJ R t=(W.reverse.foldl xR R,iz (W.reverse.foldl xR R) t,0):=by unfold dJ;rw[if_neg hnot,if_neg h3,if_neg (by rw[←hW];exact hf),←hW]
      have hf':¬(1000:Int)<(R.length:Int)+W.length:=by omega
      have KT:IntKind.i64.wrap ((W.length:Int)-1)=W.length-1:=IntWalk.i64_in _ (by omega)
      rw[←hW] at hWm
      repeat first|refine n1 ?_|refine n2 ?_|refine n3 ?_|(first|refine rg 11 [0,1,7] [0,1,7,61] [] ?_|refine rg 13 [0,1,7] [0,1,7,9] [] ?_|refine nc ?_);simp[hF,dR,hw1,hf',KT]
      refine VS.lp [(0,[.d])] (by simp[aa,ah]) ?_
      refine VS.pick [0,1,7,9] [0,1] (by simp[hF]) ?_;simp[hF]
      refine VS.rounds (fun j st=>∃(Q:List Th),j≤W.length∧Q=(W.drop j).reverse.foldl xR R∧st=⟨[(0,.ptr 0 [.d]),(1,ag t),(7,.sub 1 [] 0 W.length false),(9,ag ((j:Int)-1))],[dR Q,.sl true () 1 (aj W)],[(0,[.d])],[]⟩)
       ⟨W.length,R,Nat.le_refl _,by rw[List.drop_length];rfl,by simp[dR]⟩ ?_
      rintro j st ⟨Q,hj,hQ,rfl⟩
      have hQl:Q.length=R.length+(W.length-j):=by rw[hQ,VJ];simp
      cases j with
      | zero =>
       rw[List.drop_zero] at hQ
       subst hQ
       repeat first|refine n1 ?_|refine n7 ?_|(first|refine rg 14 [0,1,7,9] [0,1,7,9,66] [] ?_|refine rg 20 [0,1] [4,5] [] ?_|refine nc ?_);simp[hF]
       refine(oY (W.reverse.foldl xR R) (by omega) t).go [(0,[])] (by simp[hF,dR]) ?_;rintro av X κ ⟨rfl,rfl,rfl⟩;simp[hF,dR]
       repeat refine n1 ?_
       (try refine nr ?_);(repeat first|refine aF ?_|refine aG ?_);refine ak.o [4,5] [0] [(0,[.d])] ?_;simp[hF,an,aa,ah,dR,hc]
      | succ i =>
       have hil:i<W.length:=by omega
       have hwi:=bP hil
       obtain⟨w0',w1'⟩:=hWm W[i] (List.getElem_mem hil)
       have hrev:=QB hil R
       rw[←hQ] at hrev
       generalize W[i]=w at *
       obtain⟨w,rfl⟩:∃k:Nat,w=k:=⟨w.toNat,by omega⟩
       have hwQ:w<Q.length:=by omega
       have hwn:=bH hwQ
       have afN:=aQ hwQ
       have e1:(((i+1:Nat):Int)-1)=i:=by omega
       have hw3:IntKind.i64.wrap ((i:Int)-1)=(i:Int)-1:=IntWalk.i64_in _ (by omega)
       have hab:nI Q w=if 0≤Q[w].sup then iz Q Q[w].sup else 0:=by unfold nI;rw[afN]
       simp only[e1]
       by_cases hs:0≤Q[w].sup
       ·rw[if_pos hs] at hab
        repeat first|refine n1 ?_|refine n2 ?_|refine n3 ?_|(first|refine rg 14 [0,1,7,9] [0,1,7,9,66] [] ?_|refine rg 16 [0,1,7,9] [0,1,7,9,10] [] ?_|(refine dr 17 0 [0,1,7,9,10] [0,1,7,9,10,80] [] [⟨0,1,590295810358705651712,5⟩,⟨1,590295810358705651712,1180591620717411303424,5⟩,⟨2,1180591620717411303424,2361183241434822606848,5⟩,⟨4,2361183241434822606848,4722366482869645213696,6⟩,⟨0,128,9444732965739290427392,5⟩,⟨0,512,18889465931478580854784,5⟩,⟨48,28334198897217871282176,37778931862957161709568,5⟩,⟨64,37778931862957161709568,75557863725914323419136,6⟩,⟨136,80280230208783968632832,151115727451828646838272,5⟩,⟨256,151115727451828646838272,302231454903657293676544,5⟩,⟨512,302231454903657293676544,604462909807314587353088,6⟩,⟨1024,604462909807314587353088,1208925819614629174706176,5⟩] (.take 0 (.take 1 (.take 2 (.take 3 (.take 4 (.take 5 (.take 6 (.take 7 (.take 8 (.take 9 (.take 10 (.take 11 (.done))))))))))))) (.run [0,1,2,3,4,5,6,7,8,9,10,11] (.done)) ?_;simp only[nD])|(refine dr 18 0 [0,1,7,9] [0,1,7,9,10] [] [⟨0,1,2417851639229258349412352,5⟩,⟨0,1,4835703278458516698824704,5⟩,⟨2,4835703278458516698824704,9671406556917033397649408,5⟩,⟨4,9671406556917033397649408,19342813113834066795298816,5⟩,⟨8,19342813113834066795298816,38685626227668133590597632,6⟩,⟨0,128,77371252455336267181195264,5⟩,⟨0,512,154742504910672534362390528,5⟩,⟨96,232113757366008801543585792,309485009821345068724781056,5⟩,⟨128,309485009821345068724781056,618970019642690137449562112,6⟩,⟨272,657655645870358271040159744,1237940039285380274899124224,5⟩,⟨512,1237940039285380274899124224,2475880078570760549798248448,5⟩,⟨1024,2475880078570760549798248448,4951760157141521099596496896,6⟩,⟨2049,4954178008780750357945909248,9903520314283042199192993792,0⟩,⟨8191,9903520314283042199192993792,1024,5⟩] (.take 0 (.take 1 (.take 2 (.take 3 (.take 4 (.take 5 (.take 6 (.take 7 (.take 8 (.take 9 (.take 10 (.take 11 (.fork (.alt 12 (.take 13 (.done)) (.nil))))))))))))))) (.run [0,1,2,3,4,5,6,7,8,9,10,11,12,13] (.done)) ?_;simp only[nD])|refine nc ?_);simp[hF,dR,hwi,hil,hwn,hwQ,hs]
        refine(oY Q (by omega) Q[w].sup).go [(0,[])] (by simp[hF,dR,hwi,hil]) ?_;rintro av X κ ⟨rfl,rfl,rfl⟩;simp[hF,dR,hwi,hil]
        repeat first|refine rg 19 [0,1,7,9,10] [0,1,7,9] [] ?_;simp[hF,dR,hwi,hil]
        refine(vc Q (by omega) 2 (iz Q Q[w].sup) (-1) w).go [(0,[])] (by simp[hF,dR]) ?_;rintro av X κ ⟨rfl,rfl,rfl⟩;simp[hF,dR]
        repeat first|refine n4 ?_|refine n5 ?_
        refine VS.lp [(0,[.d])] (by simp[aa,ah]) ?_
        repeat first|refine n4 ?_|refine n6 ?_|refine rg 15 [0,1,7,9] [0,1,7,9] [] ?_;simp[hF,hw3]
        refine aO.of [0,1,7,9] [0,1] (i) (by omega) (by simp[hF]) ?_
        refine⟨xR Q w,by omega,hrev.symm,?_⟩
        simp[dR,xR,hab]
       ·rw[if_neg hs] at hab
        repeat first|refine n1 ?_|refine n2 ?_|refine n3 ?_|(first|refine rg 14 [0,1,7,9] [0,1,7,9,66] [] ?_|refine rg 16 [0,1,7,9] [0,1,7,9,10] [] ?_|(refine dr 17 0 [0,1,7,9,10] [0,1,7,9,10,80] [] [⟨0,1,590295810358705651712,5⟩,⟨1,590295810358705651712,1180591620717411303424,5⟩,⟨2,1180591620717411303424,2361183241434822606848,5⟩,⟨4,2361183241434822606848,4722366482869645213696,6⟩,⟨0,128,9444732965739290427392,5⟩,⟨0,512,18889465931478580854784,5⟩,⟨48,28334198897217871282176,37778931862957161709568,5⟩,⟨64,37778931862957161709568,75557863725914323419136,6⟩,⟨136,80280230208783968632832,151115727451828646838272,5⟩,⟨256,151115727451828646838272,302231454903657293676544,5⟩,⟨512,302231454903657293676544,604462909807314587353088,6⟩,⟨1024,604462909807314587353088,1208925819614629174706176,5⟩] (.take 0 (.take 1 (.take 2 (.take 3 (.take 4 (.take 5 (.take 6 (.take 7 (.take 8 (.take 9 (.take 10 (.take 11 (.done))))))))))))) (.run [0,1,2,3,4,5,6,7,8,9,10,11] (.done)) ?_;simp only[nD])|refine rg 19 [0,1,7,9,10] [0,1,7,9] [] ?_|refine nc ?_);simp[hF,dR,hwi,hil,hwn,hwQ,hs]
        refine(vc Q (by omega) 2 0 (-1) w).go [(0,[])] (by simp[hF,dR]) ?_;rintro av X κ ⟨rfl,rfl,rfl⟩;simp[hF,dR]
        repeat first|refine n4 ?_|refine n5 ?_
        refine VS.lp [(0,[.d])] (by simp[aa,ah]) ?_
        repeat first|refine n4 ?_|refine n6 ?_|refine rg 15 [0,1,7,9] [0,1,7,9] [] ?_;simp[hF,hw3]
        refine aO.of [0,1,7,9] [0,1] (i) (by omega) (by simp[hF]) ?_
        refine⟨xR Q w,by omega,hrev.symm,?_⟩
        simp[dR,xR,hab]
end Go.Proofs.YtbhigdljojlhnaaGreat

namespace Go.Proofs.YtbhigdljojlhnaaGreat
set_option linter.all false
open Go.Vc Go.Proofs
abbrev RK:=Key×ByteArray
structure Rt where
 R:List Th
 rows:List (RK×En)
 qB:List Int
def xS (x:RK×En):D:=.agg (.cons (.val (.int .i64 x.1.1.1)) (.cons (.val (.int .i64 x.1.1.2)) (.cons (.val (.string x.1.2)) (.cons (aK x.2) .nil))))
def jl (l:List (RK×En)):D:=sq (l.map xS)
def aA (r:Rt):D:=.box true () (.agg (.cons (.val (.bool true)) (.cons (dR r.R) (.cons (.sl true () 7 (jl r.rows)) (.cons (.sl true () 1 (aj r.qB)) .nil)))))
@[simp high] theorem ads(r:Rt):aW (aA r)=true:=by rw[aA,aW]
@[simp] theorem adt(R:List Th):(dR R).width=1:=rfl
@[simp] theorem abY(x:RK×En):(xS x).width=7:=rfl
@[simp] theorem adu(l:List (RK×En)):(jl l).len=l.length:=by simp[jl]
@[simp] theorem adv:jl []=.nil:=rfl
theorem lE{l:List (RK×En)}{i:Nat}(h:i<l.length):(jl l).nth i=xS l[i]:=by rw[jl,ep (by simpa using h)];simp
theorem QZ(l:List (RK×En))(i:Nat)(x:RK×En):(jl l).br i (xS x)=jl (l.set i x):=by simp only[jl,iP,List.map_set]
theorem Lq(l:List (RK×En))(x:RK×En):(jl l).app (.cons (xS x) .nil)=jl (l++[x]):=by simp only[jl,List.map_append,←gQ];rfl
@[simp] theorem abZ(l:List (RK×En)):(jl l).free=true:=jL fun x hx=>by obtain⟨n,_,rfl⟩:=List.mem_map.1 hx;rfl
@[simp] theorem Am(l:List (RK×En)):(jl l).mid 0 l.length=jl l:=aV _ _ (by simp)
theorem Dc(l:List (RK×En))(lo n:Nat):(jl l).mid lo n=jl ((l.drop lo).take n):=by simp only[jl,tr,←List.map_drop,←List.map_take]
theorem Q0(l m:List (RK×En)):(jl l).app (jl m)=jl (l++m):=by simp only[jl,gQ,List.map_append]
def mU (k:RK) (x:RK×En):Bool:=decide (x.1=k)
def v8 (l:List (RK×En)) (k:RK):Int:=lZ (mU k) l
theorem jX{l:List (RK×En)}{k:RK}{e:En}(h:bF l k=some e):v8 l k=eB l k∧∃hi:eB l k<l.length,l[eB l k]=(k,e):=by
 obtain⟨hi,hv⟩:=mo h
 refine⟨hU hi (fun j hj=>?_) (by simp[mU,hv]),hi,hv⟩
 have:∀(l:List (RK×En)) (j:Nat) (hl:j<l.length),j<eB l k→mU k l[j]=false:=by
  intro l
  induction l with
  | nil=>intro j hl;simp at hl
  | cons e l ih =>
   intro j hl hj
   unfold eB at hj
   split at hj
   ·omega
   ·rename_i hne
    cases j with
    | zero=>simpa[mU] using hne
    | succ j=>simpa using ih j (by simpa using hl) (by omega)
 exact this l j (by omega) hj
theorem jY{l:List (RK×En)}{k:RK}(h:bF l k=none):v8 l k=-1:=by
 refine fV fun j hj=>?_
 have:=pY.1 h
 simp only[mU,decide_eq_false_iff_not]
 intro e
 exact this (List.mem_map.2 ⟨_,List.getElem_mem hj,e⟩)
theorem Dd{l:List (RK×En)}{k:RK}(h:bF l k=none)(e:En):cz l k e=l++[(k,e)]:=by
 induction l with
 | nil=>rfl
 | cons x l ih =>
  unfold bF at h
  by_cases hx:x.1=k
  ·rw[if_pos hx] at h;cases h
  ·rw[if_neg hx] at h
   rw[cz,if_neg hx,ih h];rfl
theorem V5{l:List (RK×En)}{k:RK}{e:En}(h:bF l k=some e):mV l k=l.take (eB l k)++l.drop (eB l k+1):=by
 induction l with
 | nil=>cases h
 | cons x l ih =>
  unfold bF at h
  unfold mV eB
  by_cases hx:x.1=k
  ·rw[if_pos hx,if_pos hx];simp
  ·rw[if_neg hx] at h
   rw[if_neg hx,if_neg hx,ih h];simp
structure TR (c:Nat) (s:Mt) (r:Rt):Prop where
 lr:LR s.L r.R
 rows:∀k n,iO s k n=bF r.rows (k,n)
 YD:∀t,qB s t=bh r.qB t
 nd:(r.rows.map (·.1)).Nodup
 cap:r.rows.length≤c∧r.qB.length≤c
theorem TR.le{c d:Nat}{s:Mt}{r:Rt}(h:TR c s r)(hc:c≤d):TR d s r:=⟨h.lr,h.rows,h.YD,h.nd,Nat.le_trans h.cap.1 hc,Nat.le_trans h.cap.2 hc⟩
theorem TR.put{c:Nat}{s:Mt}{r:Rt}(h:TR c s r)(k:Key)(n:ByteArray)(e:En):TR (c+1) (dH s k n e) { r with rows:=cz r.rows (k,n) e }:=by
 refine⟨h.lr,fun k' n'=>?_,fun t=>h.YD t,ir h.nd _ _,?_,Nat.le_trans h.cap.2 (by omega)⟩
 ·rw[qb]
  simp only[jZ,Prod.mk.injEq,h.rows]
 ·exact Nat.le_trans (Q1 _ _ _) (by have:=h.cap.1;omega)
theorem TR.del{c:Nat}{s:Mt}{r:Rt}(h:TR c s r)(hs:aR s)(k:Key)(n:ByteArray):TR c (iV s k n) { r with rows:=mV r.rows (k,n) }:=by
 refine⟨h.lr,fun k' n'=>?_,fun t=>h.YD t,we h.nd _,?_,h.cap.2⟩
 ·rw[su hs]
  simp only[De h.nd,Prod.mk.injEq,h.rows]
 ·exact Nat.le_trans (Q2 _ _) h.cap.1
theorem TR.freeze{c:Nat}{s:Mt}{r:Rt}(h:TR c s r)(t:Int):TR (c+1) { s with fz:=cz s.fz t true } { r with qB:=r.qB++[t] }:=by
 refine⟨h.lr,h.rows,fun u=>?_,h.nd,Nat.le_trans h.cap.1 (by omega),by simp only[List.length_append,List.length_singleton];have:=h.cap.2;omega⟩
 have hf:=h.YD u
 simp only[qB,jZ] at hf ⊢
 simp only[bh,List.any_append,List.any_cons,List.any_nil,Bool.or_false] at hf ⊢
 rw[←hf]
 by_cases e:u=t
 ·subst e;simp
 ·simp[e,Ne.symm e]
theorem TR.Lr{c:Nat}{s:Mt}{r:Rt}(h:TR c s r){L R:List Th}(hl:LR L R):TR c { s with L:=L } { r with R:=R }:=⟨hl,h.rows,h.YD,h.nd,h.cap⟩
def jM (s:Mt) (x:Int) (n:ByteArray):List Int→Option Fo
 | []=>(iO s (x,-1) n).map fun e=>⟨e,x,-1⟩
 | m::act=>match iO s (x,m) n with
  | some e=>some ⟨e,x,m⟩
  | none=>jM s x n act
theorem sw(s:Mt)(k:Key)(l:List Key)(n:ByteArray):aY s (k::l) n=match iO s k n with
  | some e=>(⟨e,k.1,k.2⟩,decide (e.body≠-1))
  | none=>aY s l n:=rfl
theorem wg(s:Mt)(x:Int)(n:ByteArray)(rest:List Key):∀act:List Int,aY s ((act.map fun m=>(x,m))++(x,-1)::rest) n=match jM s x n act with
  | some f=>(f,decide (f.e.body≠-1))
  | none=>aY s rest n
 | []=>by
  show aY s ((x,-1)::rest) n=_
  rw[sw,jM]
  cases iO s (x,-1) n<;>rfl
 | m::act=>by
  show aY s ((x,m)::((act.map fun m=>(x,m))++(x,-1)::rest)) n=_
  rw[sw,jM]
  cases hm:iO s (x,m) n with
  | some e=>rfl
  | none=>exact wg s x n rest act
def gK (l act:List Int):List Key:=l.flatMap fun x=>act.map (fun m=>(x,m))++[(x,-1)]
theorem si(x:Int)(l act:List Int):gK (x::l) act=(act.map fun m=>(x,m))++(x,-1)::gK l act:=by
 unfold gK;rw[List.flatMap_cons,List.append_assoc];rfl
end Go.Proofs.YtbhigdljojlhnaaGreat
