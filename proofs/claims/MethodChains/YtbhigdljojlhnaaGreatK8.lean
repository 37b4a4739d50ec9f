/- More of Ib. -/
import Derived.Test.YtbhigdljojlhnaaGreatK7
import Derived.Test.YtbhigdljojlhnaaGreatK5
import Derived.Test.YtbhigdljojlhnaaGreatRows
import Derived.WalkKit
import Derived.ProofKit
import Derived.OpenShut
import Derived.ShutString
import Derived.ChangeOld
import Derived.Carry
namespace Go.Proofs.YtbhigdljojlhnaaGreat
set_option linter.all false
open Go.Vc Go.Proofs
def nextN (s:ByteArray):ByteArray:=if 40 < (s ++ (⟨#[110]⟩:ByteArray)).size then ⟨#[s[0]! + 1]⟩ else s ++ (⟨#[110]⟩:ByteArray)
def candL (j:Nat):List UInt8:=if j < 40 then List.replicate (j + 1) 110 else 111 :: List.replicate (j - 40) 110
def cand (j:Nat):ByteArray:=⟨(candL j).toArray⟩
theorem candL_len (j:Nat):(candL j).length = if j < 40 then j + 1 else j - 40 + 1:=by
 unfold candL
 split <;> simp
theorem cand_size (j:Nat):(cand j).size = if j < 40 then j + 1 else j - 40 + 1:=by
 show (candL j).toArray.size = _
 rw [List.size_toArray,candL_len]
theorem cand_nm {j:Nat} (h:j < 80):isNm (cand j) = true:=by
 unfold isNm
 rw [cand_size]
 split <;> simp <;> omega
theorem cand_head (j:Nat):(candL j).head? = some 110∨(candL j).head? = some 111:=by
 unfold candL
 split
 ·exact .inl (by simp [List.replicate_succ])
 ·exact .inr rfl
theorem cand_inj {i j:Nat} (hi:i < 80) (hj:j < 80) (h:cand i = cand j):i = j:=by
 have h1:candL i = candL j:=by
  have:=congrArg (fun b:ByteArray=>b.data.toList) h
  simpa [cand] using this
 have hl:=congrArg List.length h1
 rw [candL_len,candL_len] at hl
 have hh:=congrArg List.head? h1
 unfold candL at hh
 split at hl <;> split at hl
 ·omega
 ·rename_i a b;rw [if_pos a,if_neg b] at hh;simp [List.replicate_succ] at hh
 ·rename_i a b;rw [if_neg a,if_pos b] at hh;simp [List.replicate_succ] at hh
 ·omega
theorem cand_ne {j:Nat} {s:ByteArray} (h:s = fA∨s = fB∨s = fC∨s = fF):cand j≠s:=by
 intro e
 have h1:candL j = s.data.toList:=by
  have:=congrArg (fun b:ByteArray=>b.data.toList) e
  simpa [cand] using this
 have hh:=cand_head j
 rw [h1] at hh
 rcases h with rfl | rfl | rfl | rfl <;> simp at hh
theorem app_n (l:List UInt8):((⟨l.toArray⟩:ByteArray) ++ (⟨#[110]⟩:ByteArray)) = ⟨(l ++ [110]).toArray⟩:=by
 apply ByteArray.ext
 show _ = (l ++ [110]).toArray
 rw [ByteArray.data_append]
 simp
theorem rep_snoc (n:Nat):List.replicate n (110:UInt8) ++ [110] = List.replicate (n + 1) 110:=by rw [List.replicate_succ']
theorem next_cand {j:Nat} (h:j < 79):nextN (cand j) = cand (j + 1):=by
 unfold nextN
 rw [cand,app_n]
 have hs:(⟨(candL j ++ [110]).toArray⟩:ByteArray).size = (candL j).length + 1:=by show (candL j ++ [110]).toArray.size = _;simp
 rw [hs]
 have hl:=candL_len j
 by_cases h1:j < 39
 ·rw [if_pos (by omega)] at hl
  rw [hl,if_neg (by omega)]
  unfold cand candL
  rw [if_pos (by omega),if_pos (by omega),rep_snoc]
 ·by_cases h2:j = 39
  ·subst h2
   rw [if_pos (by omega)] at hl
   rw [hl,if_pos (by omega)]
   rfl
  ·rw [if_neg (by omega)] at hl
   rw [hl,if_neg (by omega)]
   unfold cand candL
   rw [if_neg (by omega),if_neg (by omega)]
   show (⟨(111 :: (List.replicate (j - 40) 110 ++ [110])).toArray⟩:ByteArray) = _
   rw [rep_snoc,show j - 40 + 1 = j + 1 - 40 by omega]
theorem cand_few {l:List ByteArray} {j:Nat} (hj:j≤80) (h:∀ i,i < j→cand i∈l):j≤l.length:=by
 have hd:∀ i,candL i = (cand i).data.toList:=fun i=>by simp [cand]
 have hn:((List.range j).map candL).Nodup:=by
  rw [List.nodup_iff_pairwise_ne,List.pairwise_map]
  refine List.Pairwise.imp_of_mem (fun {a b} ha hb hab=>?_) List.nodup_range
  rw [List.mem_range] at ha hb
  exact fun e=>hab (cand_inj (by omega) (by omega) (by unfold cand;rw [e]))
 have hsub:∀ x∈(List.range j).map candL,x∈l.map fun b=>b.data.toList:=fun x hx=>by
  obtain ⟨i,hi,rfl⟩:=List.mem_map.1 hx
  exact List.mem_map.2 ⟨_,h i (List.mem_range.1 hi),(hd i).symm⟩
 have:∀ (a b:List (List UInt8)),a.Nodup→(∀ x∈a,x∈b)→a.length≤b.length:=by
  intro a
  induction a with
  | nil=>intro b _ _;simp
  | cons x a ih =>
   intro b hn hs
   simp only [List.nodup_cons] at hn
   have hx:=hs x (by simp)
   have:=ih (b.erase x) hn.2 fun y hy=>(List.mem_erase_of_ne (fun e:y = x=>hn.1 (by rw [←e];exact hy))).2 (hs y (by simp [hy]))
   rw [List.length_erase_of_mem hx] at this
   have hb:0 < b.length:=List.length_pos_of_mem hx
   simp only [List.length_cons];omega
 have:=this _ _ hn hsub
 simpa using this
theorem fresh_none {l:List MDeed} {j:Nat} (h:∀ d∈l,d.name≠cand j) (k:Key):lkp (playM l) k (cand j) = none:=by
 cases hg:lkp (playM l) k (cand j) with
 | none=>rfl
 | some e =>
  obtain ⟨d,hd,he⟩:=(playM_all l).2.2 _ _ _ hg
  exfalso
  unfold MDeed.nm nameOf at he
  repeat' split at he
  ·exact cand_ne (.inl rfl) he
  ·exact cand_ne (.inr (.inl rfl)) he
  ·exact cand_ne (.inr (.inr (.inl rfl))) he
  ·exact cand_ne (.inr (.inr (.inr rfl))) he
  ·exact h d hd he.symm
theorem firstOf_hit' {s:Mt} {t:Int} {n:ByteArray} {e:En} (hb:e.body≠-1) (he:lkp s (t,-1) n = some e):∀ {l:List Int},t∈l→(∀ x,x≠t→lkp s (x,-1) n = none)→firstOf s (l.map fun x=>(x,-1)) n = (⟨e,t,-1⟩,true)
 | x :: l,hm,hall=>by
  rw [List.map_cons]
  unfold firstOf
  by_cases h:x = t
  ·subst h;simp only [he,hb,ne_eq,not_false_eq_true,decide_true]
  ·rw [hall x h]
   exact firstOf_hit' hb he (by rcases List.mem_cons.1 hm with rfl | h2;exact absurd rfl h;exact h2) hall
theorem alias_find {s s':Mt} {t:Nat} (hs:MtOk s) (ht:t < s.L.length) {n old:ByteArray} {e:En} (hb:e.body≠-1) (hno:n≠old) (hnone:∀ k,lkp s k n = none) (hnm:isNm n = true)
  (hc:Chg (putOf s (t,-1) n e) s' old) (hL:s'.L = s.L):FindOf s' t n [] = (⟨e,t,-1⟩,0):=by
 have hs1:=hs.put (t,-1) n e
 have hk:∀ k,lkp s' k n = lkp (putOf s (t,-1) n e) k n:=fun k=>by
  rcases hc with h | ⟨k',e',h,_⟩ | ⟨k',h⟩
  ·rw [lkp_tabs h]
  ·rw [lkp_tabs h,lkp_put,if_neg fun q=>hno q.2]
  ·rw [lkp_tabs h,lkp_del hs1,if_neg fun q=>hno q.2]
 have h1:lkp s' ((t:Int),-1) n = some e:=by rw [hk,lkp_put,if_pos ⟨rfl,rfl⟩]
 have h2:∀ x,x≠(t:Int)→lkp s' (x,-1) n = none:=fun x hx=>by
  rw [hk,lkp_put,if_neg fun q=>hx (congrArg Prod.fst q.1),hnone]
 have hv:val s'.L t = true:=by rw [hL];simp [val,ht]
 have ho:=(ordL_spec hs.ok.wf ht).2.1
 have hf:findOf s' t n [] = (⟨e,t,-1⟩,true):=by
  unfold findOf
  rw [places_nil,hL]
  exact firstOf_hit' hb h1 ho h2
 unfold FindOf
 rw [if_neg,hf]
 ·rfl
 ·simp [askE,hv,actB,hnm]
theorem super_lkp {s:Mt} {t:Int} {n:ByteArray} {th md:Int} {g:Fo} (h:superOf s t n th md = (g,true)):lkp s (g.th,g.md) n = some g.e:=by
 rw [superOf_eq] at h
 split at h
 ·obtain ⟨i,hi,h1,h2,h3,_⟩:=firstOf_hit h
  exact h2
 ·cases h
theorem chainF_spec {s:Mt} (hE:EB s) {t:Int} {n:ByteArray} (hn:(ordL s.L t).Nodup):∀ (k:Nat) (f:Fo),f.th∈ordL s.L t→0≤f.e.body →
  (chainF s t n k f).Pairwise (fun a b=>posn (ordL s.L t) a < posn (ordL s.L t) b)∧(∀ x∈chainF s t n k f,x.th∈ordL s.L t∧0≤x.e.body∧posn (ordL s.L t) f≤posn (ordL s.L t) x)∧∀ x∈(chainF s t n k f).tail,x.md = -1
 | 0,f,_,_=>⟨List.Pairwise.nil,(fun x hx=>by cases hx),fun x hx=>by cases hx⟩
 | k + 1,f,hf,hb=>by
  unfold chainF
  cases hs:(superOf s t n f.th f.md).2 with
  | false =>
   simp only [Bool.false_eq_true,if_false]
   refine ⟨List.pairwise_singleton _ _,fun x hx=>?_,fun x hx=>by cases hx⟩
   rw [List.mem_singleton] at hx;subst hx
   exact ⟨hf,hb,Nat.le_refl _⟩
  | true =>
   simp only [if_true]
   have hs':superOf s t n f.th f.md = ((superOf s t n f.th f.md).1,true):=by rw [←hs]
   obtain ⟨g1,g2,g3,g4⟩:=super_pos hn hs'
   have g5:=hE _ _ _ (super_lkp hs')
   generalize (superOf s t n f.th f.md).1 = g at *
   obtain ⟨i1,i2,i3⟩:=chainF_spec hE hn k g g1 (by omega)
   refine ⟨List.pairwise_cons.2 ⟨fun x hx=>by have:=(i2 x hx).2.2;omega,i1⟩,fun x hx=>?_,fun x hx=>?_⟩
   ·rcases List.mem_cons.1 hx with rfl | hx
    ·exact ⟨hf,hb,Nat.le_refl _⟩
    ·have:=i2 x hx;exact ⟨this.1,this.2.1,by omega⟩
   ·rw [List.tail_cons] at hx
    cases k with
    | zero=>cases hx
    | succ k =>
     unfold chainF at hx i3
     rcases List.mem_cons.1 hx with rfl | hx
     ·exact g2
     ·exact i3 x (by simpa using hx)
theorem chain_spec {s:Mt} (hs:MtOk s) (hE:EB s) {t:Nat} (ht:t < s.L.length) {n:ByteArray} {act:List Int} (h0:(ChainOf s t n act).2 = 0) :
  0 < (ChainOf s t n act).1.length∧(ChainOf s t n act).1.Pairwise (fun a b=>posn (ordL s.L t) a < posn (ordL s.L t) b)∧(∀ x∈(ChainOf s t n act).1,x.th∈ordL s.L t∧0≤x.e.body)∧∀ x∈(ChainOf s t n act).1.tail,x.md = -1:=by
 have hn:=(ordL_spec hs.ok.wf ht).1
 have hF0:(FindOf s t n act).2 = 0:=by
  unfold ChainOf at h0
  split at h0
  ·rename_i h;exact absurd h0 h
  ·rename_i h;simpa using h
 have hFe:(FindOf s t n act).1 = (findOf s t n act).1∧(findOf s t n act).2 = true:=by
  unfold FindOf at hF0 ⊢
  split at hF0
  ·exact absurd hF0 (by assumption)
  ·rename_i ha0
   rw [if_neg ha0]
   unfold toldOf at hF0 ⊢
   split at hF0
   ·cases hF0
   ·rename_i hb
    rw [if_neg hb]
    exact ⟨rfl,by simpa using hb⟩
 have hm:=find_mem (s:=s) (t:=(t:Int)) (n:=n) (act:=act) (f:=(findOf s t n act).1) (by rw [←hFe.2])
 have hl:=findOf_lkp hFe.2
 have hb:=hE _ _ _ hl.1
 have hc:ChainOf s t n act = (chainF s t n (2 * (ordL s.L t).length + 2) (findOf s t n act).1,0):=by
  unfold ChainOf
  rw [if_neg (by rw [hF0];simp),hFe.1]
 rw [hc]
 obtain ⟨i1,i2,i3⟩:=chainF_spec hE hn (n:=n) (2 * (ordL s.L t).length + 2) (findOf s t n act).1 hm.1 (by have:=hl.2;omega)
 refine ⟨?_,i1,fun x hx=>⟨(i2 x hx).1,(i2 x hx).2.1⟩,i3⟩
 show 0 < (chainF s t n (2 * (ordL s.L t).length + 1 + 1) _).length
 rw [chainF];simp
theorem tab_5:tab 5 = { ld:=some (false,1),zero:=some (.val (.int .u8 0)),int:=some .u8 }:=rfl
theorem tab_58:tab 58 = { ld:=some (true,9),zero:=some (.agg (.cons (.val (.int .i64 0)) (.cons (.val (.int .i64 0)) (.cons (.val (.int .i64 0)) (.cons (.val (.int .i64 0)) (.cons (.val (.int .i64 0)) (.cons (.val (.int .i64 0)) (.cons (.val (.string ⟨#[]⟩)) (.cons (.val (.bool false)) (.cons (.sl true (.slice none 0 0) 1 .nil) .nil)))))))))),st:=some [(0,1),(1,1),(2,1),(3,1),(4,1),(5,1),(6,1),(7,1),(8,1)] }:=rfl
theorem tab_72:tab 72 = { sl:=some (5,1,1,(.int .u8 0)),ld:=some (false,1),zero:=some (.sl true (.slice none 0 0) 1 .nil) }:=rfl
def tabd_5:=@tab_5
def tabd_58:=@tab_58
def tabd_72:=@tab_72
attribute [simp] tabd_5 tabd_58 tabd_72
end Go.Proofs.YtbhigdljojlhnaaGreat

/- A question. -/
namespace Go.Proofs.YtbhigdljojlhnaaGreat
set_option linter.all false
open Go.Vc Go.Proofs
set_option linter.unusedSimpArgs false
set_option linter.unusedVariables false
set_option maxRecDepth 100000
set_option maxHeartbeats 4000000
structure MAsk where
 thing:Int
 n:Int
 at_:Int
 md:Int
 frm:Int
 vis:Int
 name:ByteArray
 self:Bool
 act:List Int
abbrev avAsk (q:MAsk):AV:=.agg (.cons (avInt q.thing) (.cons (avInt q.n) (.cons (avInt q.at_) (.cons (avInt q.md) (.cons (avInt q.frm) (.cons (avInt q.vis) (.cons (.val (.string q.name)) (.cons (avBool q.self) (.cons (.imm 1 (dInts q.act) false) .nil)))))))))
def dAsk (q:MAsk):D:=.box true () (.agg (.cons (.val (.int .i64 q.thing)) (.cons (.val (.int .i64 q.n)) (.cons (.val (.int .i64 q.at_)) (.cons (.val (.int .i64 q.md)) (.cons (.val (.int .i64 q.frm)) (.cons (.val (.int .i64 q.vis)) (.cons (.val (.string q.name)) (.cons (.val (.bool q.self)) (.cons (.sl false () 1 (dInts q.act)) .nil))))))))))
@[simp high] theorem head_dAsk (q:MAsk):isHead (dAsk q) = true:=by rw [dAsk,isHead]
theorem nameOf_nm (n:Int) {s:ByteArray} (h:isNm s = true):isNm (nameOf n s) = true:=by
 unfold nameOf
 repeat' split
 all_goals first | exact h | decide
end Go.Proofs.YtbhigdljojlhnaaGreat

/- The chain of a name: in the order, without doubles, of a body each. -/
namespace Go.Proofs.YtbhigdljojlhnaaGreat
set_option linter.all false
open Go.Vc Go.Proofs
set_option linter.unusedSimpArgs false
set_option linter.unusedVariables false
set_option maxRecDepth 100000
set_option maxHeartbeats 4000000
attribute [local irreducible] CallW EqK
theorem chainE {s:Mt} {t:Int} {n:ByteArray} {act:List Int} (ht:val s.L t = true) (ha:actB s act = true) (hn:isNm n = true):(ChainOf s t n act).2 = 0∨(ChainOf s t n act).2 = 3:=by
 have h0:askE s t (actB s act) [n] = 0:=by simp [askE,ht,ha,hn]
 unfold ChainOf
 split
 ·simp only [FindOf,h0,toldOf]
  simp
  split <;> simp
 ·exact .inl rfl
def atPre (od:List Int) (th:Int) (j:Nat):Int:=if od.findIdx (fun x=>decide (x = th)) < j then 2 * (od.findIdx (fun x=>decide (x = th)):Int) else -1
theorem atPre_step {od:List Int} (hn:od.Nodup) (th:Int) {j:Nat} (hj:j < od.length):(od[j] = th→atPre od th (j + 1) = 2 * (j:Int))∧(od[j]≠th→atPre od th (j + 1) = atPre od th j):=by
 constructor
 ·rintro rfl
  unfold atPre
  rw [findIdx_at hn hj,if_pos (by omega)]
 ·intro h
  have:od.findIdx (fun x=>decide (x = th))≠j:=fun e=>by
   have h2:od.findIdx (fun x=>decide (x = th)) < od.length:=by omega
   have:=List.findIdx_getElem (w:=h2)
   simp only [e,decide_eq_true_eq] at this
   exact h this
  unfold atPre
  by_cases h3:od.findIdx (fun x=>decide (x = th)) < j
  ·rw [if_pos h3,if_pos (by omega)]
  ·rw [if_neg h3,if_neg (by omega)]
theorem atPre_all {od:List Int} {f:Fo} (h:f.th∈od):∃ a:Nat,atPre od f.th od.length = a∧a < 2 * od.length∧posn od f = if f.md < 0 then a + 1 else a:=by
 have h1:od.findIdx (fun x=>decide (x = f.th)) < od.length:=List.findIdx_lt_length_of_exists ⟨f.th,h,by simp⟩
 refine ⟨2 * od.findIdx (fun x=>decide (x = f.th)),by unfold atPre;rw [if_pos h1];rfl,by omega,?_⟩
 unfold posn
 split <;> omega
def lastP (od:List Int) (ch:List Fo) (i:Nat):Int:=if i = 0 then -1 else match ch[i - 1]? with | some f=>(posn od f:Int) | none=>-1
theorem lastP_lt {od:List Int} {ch:List Fo} (h:ch.Pairwise fun a b=>posn od a < posn od b) {i:Nat} (hi:i < ch.length):lastP od ch i < posn od ch[i]:=by
 unfold lastP
 split
 ·omega
 ·have h1:i - 1 < ch.length:=by omega
  rw [List.getElem?_eq_getElem h1]
  have:=List.pairwise_iff_getElem.1 h (i - 1) i h1 hi (by omega)
  simp only;omega
theorem lastP_next {od:List Int} {ch:List Fo} {i:Nat} (hi:i < ch.length):lastP od ch (i + 1) = posn od ch[i]:=by
 unfold lastP
 rw [if_neg (by omega),Nat.add_sub_cancel,List.getElem?_eq_getElem hi]
theorem mem_tail {α:Type} {l:List α} {i:Nat} (hi:i < l.length) (h0:0 < i):l[i]∈l.tail:=by
 cases l with
 | nil=>cases hi
 | cons a l =>
  cases i with
  | zero=>omega
  | succ i=>simp
theorem ChainA_yes (o:Bool) {s:Mt} (h:MtOk s) (t:Int) (n:ByteArray) (act:List Int) (ex:Bool) (ha:act.length≤1000) (he:(ChainOf s t n act).2 = 0):Meets Tryz.prog 24 [dTs o s] (.cons (.ptr 0 [.d]) (.cons (avInt t) (.cons (.val (.string n)) (.cons (.imm 1 (dInts act) ex) .nil))))
  fun av X κ=>∃ ex,av = avTwo (.sub 1 [] 0 (ChainOf s t n act).1.length ex) 0∧X = [dTs o s,.sl true () 6 (dFos (ChainOf s t n act).1)]∧κ = [] :=
 Meets.mono (Chain_ok o h t n act ex ha) fun av X κ q=>by
  rw [if_pos he] at q
  obtain ⟨⟨⟨ex,h1⟩,h2⟩,h3⟩:=q
  exact ⟨ex,h1,h2,h3⟩
theorem ChainA_no (o:Bool) {s:Mt} (h:MtOk s) (t:Int) (n:ByteArray) (act:List Int) (ex:Bool) (ha:act.length≤1000) (he:¬ (ChainOf s t n act).2 = 0):Meets Tryz.prog 24 [dTs o s] (.cons (.ptr 0 [.d]) (.cons (avInt t) (.cons (.val (.string n)) (.cons (.imm 1 (dInts act) ex) .nil))))
  fun av X κ=>av = avTwo (.nils 6) (ChainOf s t n act).2∧X = [dTs o s]∧κ = [] :=
 Meets.mono (Chain_ok o h t n act ex ha) fun av X κ q=>by
  rw [if_neg he] at q
  exact ⟨q.1.1,q.1.2,q.2⟩
theorem methodChains_ok (l:List MDeed) (ex:Bool) (hl:l.length≤2 ^ 63 - 1) (q:MAsk) (hq:q.act.length≤2 ^ 63 - 1):Meets Tryz.prog 7 [] (.cons (.imm 8 (dMds l) ex) (.cons (avAsk q) .nil)) fun av X κ=>av = avBool true∧X = []∧κ = []:=by
 have hp:=played_ok l ex
 unfold PlayedR at hp
 have hok:=(playM_all (l.take 60)).1
 have hEB:=(playM_all (l.take 60)).2.1
 generalize playM (l.take 60) = s at *
 refine fb Tryz.func7 Tryz.ntmps7 [.tmp 4] fun w0 I0 F0 hF=>?_
 repeat first|refine n1 ?_|((first|refine rg 0 [0,1] [0,3] [] ?_|refine rg 1 [0,3] [3,5,6] [] ?_);simp (maxSteps:=1000000) [hF,dBo,dTs,dL,dTR,dR])
 refine (hp).go [] (by simp (maxSteps:=1000000) [hF,dBo]) ?_;rintro av X κ ⟨r,T,rfl,rfl,rfl⟩;simp (maxSteps:=1000000) [hF,dBo]
 repeat first|refine n1 ?_|refine n2 ?_|refine n3 ?_|((first|refine rg 2 [3,5,6] [3,5,26] [] ?_|refine rg 4 [3,5] [3,5,7] [] ?_|refine rg 5 [3,5,7] [3,5,7,8] [] ?_|refine nc ?_);simp (maxSteps:=1000000) [hF])
 refine ghostL 1 [.d,.f 0] ?_;simp (maxSteps:=1000000) [hF,St.lift,AV.lift,liftPl,stripP,nodeAV,isNode,dBo,dTs]
 refine ghostL 1 [.d,.f 1] ?_;simp (maxSteps:=1000000) [hF,St.lift,AV.lift,liftPl,stripP,nodeAV,isNode,dBo,dTR]
 refine VS.hold0 7 1 (by simp) ?_
 refine VS.pick [3,5,7,8] [0,2,3,4,5] (by simp [hF]) ?_;simp [hF]
 refine VS.rounds (fun m st=>∃ (i:Nat) (W:List Int),i + m = 10∧i≤q.act.length∧W.length≤i∧actB s W = true∧st = ⟨[(3,.ptr 0 [.d]),(5,.ptr 1 [.d]),(7,.sub 4 [] 0 W.length false),(8,avInt i)],[dAsk q,dJJ,dTs true s,dTR r,.sl true () 1 (dInts W)],[],
   [(1,[.d,.f 0],.ptr 2 [.d]),(1,[.d,.f 1],.ptr 3 [.d])]⟩) ⟨10,0,[],by omega,by omega,by simp,rfl,by simp [dAsk,dJJ,dTs,dTR,dInts,sq]⟩ ?_
 rintro m st ⟨i,W,hi,hil,hW,hWa,rfl⟩
 by_cases hgo:i < q.act.length∧i < 10
 ·obtain ⟨hlt,h10⟩:=hgo
  have h10':(i:Int) < 10:=by omega
  have hn:(dInts q.act).nth i = .val (.int .i64 q.act[i]):=by rw [dInts,sq_nth_lt (by simpa using hlt)];simp [dInt]
  have hw:IntKind.i64.wrap ((i:Int) + 1) = ((i + 1:Nat):Int):=by rw [IntWalk.i64_in _ (by omega)];rfl
  generalize q.act[i] = a at *
  cases hv:val s.L a with
  | false =>
   repeat first|refine n1 ?_|refine n2 ?_|refine n3 ?_|((first|refine rg 6 [3,5,7,8] [3,5,7,8,35] [(5,32)] ?_|(refine drB 8 [3,5] 260 146 [3,5,7,8] [3,5,7,8,9,10] [] [⟨0,32,549755813888,5⟩,⟨1,549755813888,1099511627776,6⟩,⟨2,1099511627776,2199023255552,0⟩,⟨0,8,4398046511104,5⟩,⟨8,4398046511104,8796093022208,6⟩,⟨0,256,17592186044416,5⟩,⟨48,26388279066624,35184372088832,5⟩,⟨64,35184372088832,70368744177664,6⟩,⟨132,72567767433216,140737488355328,0⟩,⟨256,140737488355328,274877906944,5⟩,⟨512,274877906944,281474976710656,5⟩,⟨512,274877906944,562949953421312,5⟩,⟨2047,281474976710656,512,5⟩,⟨8191,562949953421312,1024,5⟩] (.take 0 (.take 1 (.take 3 (.take 4 (.take 5 (.take 6 (.fork (.alt 2 (.fork (.alt 7 (.fork (.alt 8 (.take 9 (.take 10 (.take 11 (.take 12 (.take 13 (.done)))))) (.nil))) (.nil))) (.alt 7 (.fork (.alt 2 (.fork (.alt 8 (.take 9 (.take 10 (.take 11 (.take 12 (.take 13 (.done)))))) (.nil))) (.nil))) (.nil)))))))))) (.run [0] (.chk 1 (.run [1,3] (.chk 4 (.run [4,5,6] (.both (.chk 2 (.run [7] (.chk 8 (.run [9,10,11,12,13] (.done))))) (.run [7] (.chk 2 (.chk 8 (.run [9,10,11,12,13] (.done))))))))))) ?_;simp only [drsB])|refine nc ?_);simp (maxSteps:=1000000) [hF,hlt,h10',hn,dAsk,dJJ])
   (repeat' with_reducible refine And.intro ?_ ?_)
   all_goals
    refine (Lineage_ok true s).goB [(2,[])] (by simp (maxSteps:=1000000) [hF,dTs,dL,hn,hlt]) ?_;rintro av X κ ⟨rfl,rfl,rfl⟩;simp (maxSteps:=1000000) [hF,dTs,dL,hn,hlt]
    refine (Kind_no hok.len a hv).goB [(2,[.d,.f 0])] (by simp (maxSteps:=1000000) [hF,dTs,dL]) ?_;rintro av X κ ⟨rfl,rfl,rfl⟩;simp (maxSteps:=1000000) [hF,dTs,dL]
    repeat first|refine n1 ?_|refine n2 ?_|refine n4 ?_|refine n5 ?_|refine n6 ?_|((first|refine rg 7 [3,5,7,8] [3,5,7,8] [] ?_|refine rg 9 [3,5,7,8,9,10] [3,5,7,8,55] [(2,52)] ?_|refine nc ?_);simp (maxSteps:=1000000) [hF,hw])
    refine nextK.of [3,5,7,8] [0,1,2,3,4] (m - 1) (by omega) (by simp [hF]) ?_
    exact ⟨i + 1,W,by omega,by omega,by omega,hWa,by simp [dAsk,dJJ,dTs,dL]⟩
  | true =>
   obtain ⟨k,rfl,hk⟩:=val_nat hv
   by_cases hm:(s.L[k]).kind = 1
   ·have happ:=dInts_app1 W (k:Int)
    have hWm:(dInts W).mid 0 W.length = dInts W:=dInts_mid_all _
    have b1:(W.length + 1) * 8≤140737488355328:=by omega
    have b2:W.length + 1≤9223372036854775807:=by omega
    have hmid:(dInts (W ++ [(k:Int)])).mid 0 (W.length + 1) = dInts (W ++ [(k:Int)]):=by have:=dInts_mid_all (W ++ [(k:Int)]);simpa using this
    have hWa2:actB s (W ++ [(k:Int)]) = true:=by
     unfold actB at hWa ⊢
     rw [List.all_append,hWa]
     simp [modB,hv,thAt_eq hk,hm]
    repeat first|refine n1 ?_|refine n2 ?_|refine n3 ?_|((first|refine rg 6 [3,5,7,8] [3,5,7,8,35] [(5,32)] ?_|(refine drB 8 [3,5] 260 146 [3,5,7,8] [3,5,7,8,9,10] [] [⟨0,32,549755813888,5⟩,⟨1,549755813888,1099511627776,6⟩,⟨2,1099511627776,2199023255552,0⟩,⟨0,8,4398046511104,5⟩,⟨8,4398046511104,8796093022208,6⟩,⟨0,256,17592186044416,5⟩,⟨48,26388279066624,35184372088832,5⟩,⟨64,35184372088832,70368744177664,6⟩,⟨132,72567767433216,140737488355328,0⟩,⟨256,140737488355328,274877906944,5⟩,⟨512,274877906944,281474976710656,5⟩,⟨512,274877906944,562949953421312,5⟩,⟨2047,281474976710656,512,5⟩,⟨8191,562949953421312,1024,5⟩] (.take 0 (.take 1 (.take 3 (.take 4 (.take 5 (.take 6 (.fork (.alt 2 (.fork (.alt 7 (.fork (.alt 8 (.take 9 (.take 10 (.take 11 (.take 12 (.take 13 (.done)))))) (.nil))) (.nil))) (.alt 7 (.fork (.alt 2 (.fork (.alt 8 (.take 9 (.take 10 (.take 11 (.take 12 (.take 13 (.done)))))) (.nil))) (.nil))) (.nil)))))))))) (.run [0] (.chk 1 (.run [1,3] (.chk 4 (.run [4,5,6] (.both (.chk 2 (.run [7] (.chk 8 (.run [9,10,11,12,13] (.done))))) (.run [7] (.chk 2 (.chk 8 (.run [9,10,11,12,13] (.done))))))))))) ?_;simp only [drsB])|refine nc ?_);simp (maxSteps:=1000000) [hF,hlt,h10',hn,dAsk,dJJ])
    (repeat' with_reducible refine And.intro ?_ ?_)
    all_goals
     refine (Lineage_ok true s).goB [(2,[])] (by simp (maxSteps:=1000000) [hF,dTs,dL,hn,hlt]) ?_;rintro av X κ ⟨rfl,rfl,rfl⟩;simp (maxSteps:=1000000) [hF,dTs,dL,hn,hlt]
     refine (Kind_yes hok.len k hk).goB [(2,[.d,.f 0])] (by simp (maxSteps:=1000000) [hF,dTs,dL]) ?_;rintro av X κ ⟨rfl,rfl,rfl⟩;simp (maxSteps:=1000000) [hF,dTs,dL]
     repeat first|refine n1 ?_|refine n4 ?_|refine n5 ?_|refine n6 ?_|((first|refine rg 7 [3,5,7,8] [3,5,7,8] [] ?_|refine rg 9 [3,5,7,8,9,10] [3,5,7,8,55] [(2,52)] ?_|refine rg 10 [3,5,7,8] [3,5,7,8] [] ?_|refine nc ?_);simp (maxSteps:=1000000) [hF,hm,hn,hlt,happ,hWm,b1,b2,hmid,hw])
     refine nextK.of [3,5,7,8] [0,1,2,3,4] (m - 1) (by omega) (by simp [hF]) ?_
     exact ⟨i + 1,W ++ [(k:Int)],by omega,by omega,by simp;omega,hWa2,by simp [dAsk,dJJ,dTs,dL]⟩
   ·have hm0:=hm
    repeat first|refine n1 ?_|refine n2 ?_|refine n3 ?_|((first|refine rg 6 [3,5,7,8] [3,5,7,8,35] [(5,32)] ?_|(refine drB 8 [3,5] 260 146 [3,5,7,8] [3,5,7,8,9,10] [] [⟨0,32,549755813888,5⟩,⟨1,549755813888,1099511627776,6⟩,⟨2,1099511627776,2199023255552,0⟩,⟨0,8,4398046511104,5⟩,⟨8,4398046511104,8796093022208,6⟩,⟨0,256,17592186044416,5⟩,⟨48,26388279066624,35184372088832,5⟩,⟨64,35184372088832,70368744177664,6⟩,⟨132,72567767433216,140737488355328,0⟩,⟨256,140737488355328,274877906944,5⟩,⟨512,274877906944,281474976710656,5⟩,⟨512,274877906944,562949953421312,5⟩,⟨2047,281474976710656,512,5⟩,⟨8191,562949953421312,1024,5⟩] (.take 0 (.take 1 (.take 3 (.take 4 (.take 5 (.take 6 (.fork (.alt 2 (.fork (.alt 7 (.fork (.alt 8 (.take 9 (.take 10 (.take 11 (.take 12 (.take 13 (.done)))))) (.nil))) (.nil))) (.alt 7 (.fork (.alt 2 (.fork (.alt 8 (.take 9 (.take 10 (.take 11 (.take 12 (.take 13 (.done)))))) (.nil))) (.nil))) (.nil)))))))))) (.run [0] (.chk 1 (.run [1,3] (.chk 4 (.run [4,5,6] (.both (.chk 2 (.run [7] (.chk 8 (.run [9,10,11,12,13] (.done))))) (.run [7] (.chk 2 (.chk 8 (.run [9,10,11,12,13] (.done))))))))))) ?_;simp only [drsB])|refine nc ?_);simp (maxSteps:=1000000) [hF,hlt,h10',hn,dAsk,dJJ])
    (repeat' with_reducible refine And.intro ?_ ?_)
    all_goals
     refine (Lineage_ok true s).goB [(2,[])] (by simp (maxSteps:=1000000) [hF,dTs,dL,hn,hlt]) ?_;rintro av X κ ⟨rfl,rfl,rfl⟩;simp (maxSteps:=1000000) [hF,dTs,dL,hn,hlt]
     refine (Kind_yes hok.len k hk).goB [(2,[.d,.f 0])] (by simp (maxSteps:=1000000) [hF,dTs,dL]) ?_;rintro av X κ ⟨rfl,rfl,rfl⟩;simp (maxSteps:=1000000) [hF,dTs,dL]
     repeat first|refine n1 ?_|refine n2 ?_|refine n4 ?_|refine n5 ?_|refine n6 ?_|((first|refine rg 7 [3,5,7,8] [3,5,7,8] [] ?_|refine rg 9 [3,5,7,8,9,10] [3,5,7,8,55] [(2,52)] ?_|refine nc ?_);simp (maxSteps:=1000000) [hF,hm,hw])
     refine nextK.of [3,5,7,8] [0,1,2,3,4] (m - 1) (by omega) (by simp [hF]) ?_
     exact ⟨i + 1,W,by omega,by omega,by omega,hWa,by simp [dAsk,dJJ,dTs,dL]⟩
 ·have hWm:(dInts W).mid 0 W.length = dInts W:=dInts_mid_all _
  apply merged
  ·intro key
   by_cases hlt:i < q.act.length
   ·have h10':¬ (i:Int) < 10:=by omega
    repeat first|refine n1 ?_|refine n7 ?_|((first|refine rg 6 [3,5,7,8] [3,5,7,8,35] [(5,32)] ?_|refine nc ?_);simp (maxSteps:=1000000) [hF,hlt,h10',dAsk])
    refine VS.cool 7 (by simp (maxSteps:=1000000) [hF,hWm]) ?_;simp [hF,St.cool,hWm]
    refine VS.pick [3,5,7] [0,1,2,3] (by simp [hF]) ?_;simp [hF]
    exact key ()
   ·repeat first|refine n1 ?_|refine n7 ?_|((first|refine rg 6 [3,5,7,8] [3,5,7,8,35] [(5,32)] ?_|refine nc ?_);simp (maxSteps:=1000000) [hF,hlt,dAsk])
    refine VS.cool 7 (by simp (maxSteps:=1000000) [hF,hWm]) ?_;simp [hF,St.cool,hWm]
    refine VS.pick [3,5,7] [0,1,2,3] (by simp [hF]) ?_;simp [hF]
    exact key ()
  have hlen:=T.lr.len
  have hpos:=hok.pos
  have hLn:=hok.len
  have hsane:=sane_ok
  obtain ⟨hf1,hf2⟩:=fitN_eq q.thing hpos
  have wU:IntKind.u64.wrap (s.L.length:Int) = s.L.length:=by simp only [IntKind.wrap,IntKind.bits,IntKind.signed];simp;omega
  have wI:IntKind.i64.wrap (fitN q.thing s.L.length:Int) = fitN q.thing s.L.length:=IntWalk.i64_in _ (by omega)
  have hnz:¬ s.L.length = 0:=by omega
  have hO:=Order_yes hok.ok.wf _ hf2
  have hnd:=(ordL_spec hok.ok.wf hf2).1
  have hol:(ordL s.L (fitN q.thing s.L.length)).length≤1000:=hok.ok.wf.base.elim fun _ B=>ord_len B hf2 (hok.ok.wf.ord hf2)
  obtain ⟨nm,hnm⟩:∃ nm,nm = nameOf q.n ⟨#[97]⟩:=⟨_,rfl⟩
  have hnmOk:isNm nm = true:=by rw [hnm];exact nameOf_nm _ (by decide)
  have hvt:val s.L (fitN q.thing s.L.length) = true:=by simp [val,hf2]
  have hcE:=chainE hvt hWa hnmOk
  by_cases he:(ChainOf s (fitN q.thing s.L.length) nm W).2 = 0
  ·have hc:=ChainA_yes true hok (fitN q.thing s.L.length) nm W false (by omega) he
   obtain ⟨hc1,hc2,hc3,hc4⟩:=chain_spec hok hEB hf2 he
   have hchl:=chain_len hok hf2 nm W
   generalize (ChainOf s (fitN q.thing s.L.length) nm W).1 = ch at *
   clear hcE he
   generalize fitN q.thing s.L.length = t at *
   generalize ordL s.L t = od at *
   apply merged
   ·intro key
    repeat first|(((refine dr 11 0 [3,5,7] [3,5,7,11] [] [⟨0,8,18446744073709551616,5⟩,⟨1,18446744073709551616,36893488147419103232,6⟩,⟨2,36893488147419103232,73786976294838206464,5⟩,⟨0,32,147573952589676412928,5⟩,⟨8,147573952589676412928,295147905179352825856,6⟩,⟨16,295147905179352825856,590295810358705651712,5⟩,⟨32,590295810358705651712,1180591620717411303424,5⟩,⟨64,1180591620717411303424,2361183241434822606848,6⟩,⟨128,2361183241434822606848,4722366482869645213696,0⟩,⟨256,4722366482869645213696,9444732965739290427392,5⟩,⟨516,9518519942034128633856,18889465931478580854784,5⟩,⟨1024,18889465931478580854784,37778931862957161709568,5⟩,⟨4095,37778931862957161709568,2048,5⟩] (.take 0 (.take 3 (.take 4 (.take 5 (.take 6 (.take 7 (.fork (.alt 1 (.take 2 (.fork (.alt 8 (.take 9 (.take 10 (.take 11 (.take 12 (.done))))) (.nil)))) (.alt 8 (.take 1 (.take 2 (.take 9 (.take 10 (.take 11 (.take 12 (.done))))))) (.nil)))))))))) (.run [0,3,4,5,6,7] (.both (.run [1,2,8,9,10,11,12] (.done)) (.run [8,1,2,9,10,11,12] (.done)))) ?_;simp only [drs]));simp (maxSteps:=1000000) [hF,dAsk,dJJ,dTR,dR])
    (repeat' with_reducible refine And.intro ?_ ?_)
    all_goals
     refine (rLen_ok r.R).go [(3,[.d,.f 1])] (by simp (maxSteps:=1000000) [hF,dTR,dR,hlen,wU,hf1,wI,hnz]) ?_;rintro av X κ ⟨rfl,rfl,rfl⟩;simp (maxSteps:=1000000) [hF,dTR,dR,hlen,wU,hf1,wI,hnz]
     exact key ()
   repeat first|refine n1 ?_|((refine rg 12 [3,5,7,11] [3,5,7,11,12,13] [] ?_);simp (maxSteps:=1000000) [hF])
   refine (Lineage_ok true s).go [(2,[])] (by simp (maxSteps:=1000000) [hF,dTs,dL]) ?_;rintro av X κ ⟨rfl,rfl,rfl⟩;simp (maxSteps:=1000000) [hF,dTs,dL]
   refine (hO).go [(2,[.d,.f 0])] (by simp (maxSteps:=1000000) [hF,dTs,dL]) ?_;rintro av X κ ⟨rfl,rfl,rfl⟩;simp (maxSteps:=1000000) [hF,dTs,dL]
   repeat first|refine n1 ?_|(((refine drB 13 [3,5] 160 18 [3,5,7,11,12,13] [12,13,14,15] [] [⟨0,32,38685626227668133590597632,5⟩,⟨1,38685626227668133590597632,77371252455336267181195264,6⟩,⟨0,2048,154742504910672534362390528,5⟩,⟨0,8,309485009821345068724781056,5⟩,⟨8,309485009821345068724781056,618970019642690137449562112,6⟩,⟨16,618970019642690137449562112,1237940039285380274899124224,0⟩,⟨0,128,2475880078570760549798248448,5⟩,⟨102,3945933875222149626240958464,4951760157141521099596496896,0⟩,⟨128,4951760157141521099596496896,19342813113834066795298816,5⟩,⟨256,19342813113834066795298816,9903520314283042199192993792,5⟩,⟨256,19342813113834066795298816,19807040628566084398385987584,5⟩,⟨1023,9903520314283042199192993792,16384,5⟩,⟨4095,19807040628566084398385987584,32768,5⟩] (.take 0 (.take 1 (.take 2 (.take 3 (.take 4 (.take 6 (.fork (.alt 5 (.fork (.alt 7 (.take 8 (.take 9 (.take 10 (.take 11 (.take 12 (.done)))))) (.nil))) (.nil))))))))) (.run [0] (.chk 1 (.run [1,2,3] (.chk 4 (.run [4,6] (.chk 5 (.chk 7 (.run [8,9,10,11,12] (.done))))))))) ?_;simp only [drsB]));simp (maxSteps:=1000000) [hF,dAsk,dJJ])
   refine (name_ok q.n ⟨#[97]⟩).goB [] (by simp (maxSteps:=1000000) [hF,←hnm]) ?_;rintro av X κ ⟨rfl,rfl,rfl⟩;simp (maxSteps:=1000000) [hF,←hnm]
   refine (hc).goB [(2,[])] (by simp (maxSteps:=1000000) [hF,dTs,dL]) ?_;rintro av X κ ⟨ex1,rfl,rfl,rfl⟩;simp (maxSteps:=1000000) [hF,dTs,dL]
   refine VS.pick [12,13,14,15] [4] (by simp [hF]) ?_;simp [hF]
   repeat first|refine n1 ?_|refine n2 ?_|refine n3 ?_|((first|refine rg 14 [12,13,14,15] [12,14,112] [(2,97),(5,100),(10,105)] ?_|refine rg 16 [12,14] [12,14,16] [] ?_|refine rg 17 [12,14,16] [12,14,16,17] [] ?_|refine nc ?_);simp (maxSteps:=1000000) [hF,hc1])
   refine VS.rounds (fun m st=>∃ (i:Nat),i + m = ch.length∧st = ⟨[(12,.imm 1 (dInts od) false),(14,.sub 0 [] 0 ch.length ex1),(16,avInt (lastP od ch i)),(17,avInt i)],[.sl true () 6 (dFos ch)],[],[]⟩) ⟨ch.length,0,by omega,by simp [lastP]⟩ ?_
   rintro m st ⟨i,hi,rfl⟩
   by_cases hil:i < ch.length
   ·have hnf:=dFos_nth hil
    obtain ⟨hth,hb⟩:=hc3 _ (List.getElem_mem hil)
    have hlast:=lastP_lt hc2 hil
    have hnext:=lastP_next (od:=od) hil
    have htl:0 < i→ch[i].md = -1:=fun h=>hc4 _ (mem_tail hil h)
    have hw:IntKind.i64.wrap ((i:Int) + 1) = ((i + 1:Nat):Int):=by rw [IntWalk.i64_in _ (by omega)];rfl
    generalize ch[i] = f at *
    generalize lastP od ch i = la at *
    repeat first|refine n1 ?_|refine n2 ?_|refine n3 ?_|((first|refine rg 18 [12,14,16,17] [12,14,16,17,116] [] ?_|refine rg 20 [12,14,16,17] [12,14,16,17,18] [] ?_|refine rg 21 [12,14,16,17,18] [12,14,16,17,18,19] [] ?_|refine nc ?_);simp (maxSteps:=1000000) [hF,hil])
    refine VS.rounds (fun m2 st=>∃ (k:Nat),k + m2 = od.length∧st = ⟨[(12,.imm 1 (dInts od) false),(14,.sub 0 [] 0 ch.length ex1),(16,avInt la),(17,avInt i),(18,avInt (atPre od f.th k)),(19,avInt k)],[.sl true () 6 (dFos ch)],[],[]⟩) ⟨od.length,0,by omega,by simp [atPre]⟩ ?_
    rintro m2 st ⟨k,hk,rfl⟩
    by_cases hkl:k < od.length
    ·have hno:(dInts od).nth k = .val (.int .i64 od[k]):=by rw [dInts,sq_nth_lt (by simpa using hkl)];simp [dInt]
     obtain ⟨ha1,ha2⟩:=atPre_step hnd f.th hkl
     have hwk:IntKind.i64.wrap ((k:Int) + 1) = ((k + 1:Nat):Int):=by rw [IntWalk.i64_in _ (by omega)];rfl
     have hw2:IntKind.i64.wrap (2 * (k:Int)) = 2 * (k:Int):=IntWalk.i64_in _ (by omega)
     by_cases hq1:od[k] = f.th
     ·have ha:=ha1 hq1
      repeat first|refine n1 ?_|refine n2 ?_|refine n3 ?_|refine n4 ?_|refine n5 ?_|refine n6 ?_|((first|refine rg 22 [12,14,16,17,18,19] [12,14,16,17,18,19,122] [] ?_|refine rg 23 [12,14,16,17,18,19] [12,14,16,17,18,19] [] ?_|(refine dr 24 0 [12,14,16,17,18,19] [12,14,16,17,18,19,134] [] [⟨0,4096,42535295865117307932921825928971026432,5⟩,⟨0,524288,85070591730234615865843651857942052864,5⟩,⟨3,127605887595351923798765477786913079296,170141183460469231731687303715884105728,5⟩,⟨4,170141183460469231731687303715884105728,340282366920938463463374607431768211456,6⟩,⟨0,16384,680564733841876926926749214863536422912,5⟩,⟨0,131072,1361129467683753853853498429727072845824,5⟩,⟨48,2041694201525630780780247644590609268736,2722258935367507707706996859454145691648,5⟩,⟨64,2722258935367507707706996859454145691648,5444517870735015415413993718908291383296,5⟩,⟨128,5444517870735015415413993718908291383296,10889035741470030830827987437816582766592,6⟩,⟨264,11229318108390969294291362045248350978048,21778071482940061661655974875633165533184,5⟩] (.take 0 (.take 1 (.take 2 (.take 3 (.take 4 (.take 5 (.take 6 (.take 7 (.take 8 (.take 9 (.done))))))))))) (.run [0,1,2,3,4,5,6,7,8,9] (.done)) ?_;simp only [drs])|refine rg 25 [12,14,16,17,19] [12,14,16,17,18,19] [] ?_|refine nc ?_);simp (maxSteps:=1000000) [hF,hkl,hno,hnf,hil,dFo,dEnt,hq1,hwk,hw2])
      refine nextK.of [12,14,16,17,18,19] [0] (m2 - 1) (by omega) (by simp [hF]) ?_
      exact ⟨k + 1,by omega,by simp [ha]⟩
     ·have ha:=ha2 hq1
      repeat first|refine n1 ?_|refine n2 ?_|refine n3 ?_|refine n4 ?_|refine n5 ?_|refine n6 ?_|((first|refine rg 22 [12,14,16,17,18,19] [12,14,16,17,18,19,122] [] ?_|refine rg 23 [12,14,16,17,18,19] [12,14,16,17,18,19] [] ?_|(refine dr 24 0 [12,14,16,17,18,19] [12,14,16,17,18,19,134] [] [⟨0,4096,42535295865117307932921825928971026432,5⟩,⟨0,524288,85070591730234615865843651857942052864,5⟩,⟨3,127605887595351923798765477786913079296,170141183460469231731687303715884105728,5⟩,⟨4,170141183460469231731687303715884105728,340282366920938463463374607431768211456,6⟩,⟨0,16384,680564733841876926926749214863536422912,5⟩,⟨0,131072,1361129467683753853853498429727072845824,5⟩,⟨48,2041694201525630780780247644590609268736,2722258935367507707706996859454145691648,5⟩,⟨64,2722258935367507707706996859454145691648,5444517870735015415413993718908291383296,5⟩,⟨128,5444517870735015415413993718908291383296,10889035741470030830827987437816582766592,6⟩,⟨264,11229318108390969294291362045248350978048,21778071482940061661655974875633165533184,5⟩] (.take 0 (.take 1 (.take 2 (.take 3 (.take 4 (.take 5 (.take 6 (.take 7 (.take 8 (.take 9 (.done))))))))))) (.run [0,1,2,3,4,5,6,7,8,9] (.done)) ?_;simp only [drs])|refine nc ?_);simp (maxSteps:=1000000) [hF,hkl,hno,hnf,hil,dFo,dEnt,hq1,hwk,hw2])
      refine nextK.of [12,14,16,17,18,19] [0] (m2 - 1) (by omega) (by simp [hF]) ?_
      exact ⟨k + 1,by omega,by simp [ha]⟩
    ·obtain ⟨a,hat,hal,hpo⟩:=atPre_all hth
     have hk2:k = od.length:=by omega
     rw [hk2,hat]
     have hwa:IntKind.i64.wrap ((a:Int) + 1) = ((a + 1:Nat):Int):=by rw [IntWalk.i64_in _ (by omega)];rfl
     have hbn:¬ f.e.body < 0:=by omega
     by_cases hmd:f.md < 0
     ·rw [if_pos hmd] at hpo
      have hmd2:¬ (0≤f.md):=by omega
      have hla:¬ ((a + 1:Nat):Int)≤la:=by omega
      have hla2:¬ (a:Int) + 1≤la:=by omega
      by_cases hi0:0 < i
      ·repeat first|refine n1 ?_|refine n2 ?_|refine n4 ?_|refine n5 ?_|refine n6 ?_|refine n7 ?_|((first|refine rg 19 [12,14,16,17] [12,14,16,17] [] ?_|refine rg 22 [12,14,16,17,18,19] [12,14,16,17,18,19,122] [] ?_|refine rg 26 [12,14,16,17,18] [12,14,16,17,18,146] [(2,139)] ?_|refine rg 27 [12,14,16,17,18] [12,14,16,17,18] [] ?_|refine rg 28 [12,14,16,17,18] [12,14,17,18,172] [(3,152),(12,161),(15,164)] ?_|refine rg 30 [12,14,17,18] [12,14,16,17] [] ?_|refine nc ?_);simp (maxSteps:=1000000) [hF,hil,hnf,dFo,dEnt,hmd,hmd2,hi0,hwa,hla,hla2,hbn,hw])
       refine nextK.of [12,14,16,17] [0] (m - 1) (by omega) (by simp [hF]) ?_
       exact ⟨i + 1,by omega,by simp [hnext,hpo]⟩
      ·repeat first|refine n1 ?_|refine n2 ?_|refine n4 ?_|refine n5 ?_|refine n6 ?_|refine n7 ?_|((first|refine rg 19 [12,14,16,17] [12,14,16,17] [] ?_|refine rg 22 [12,14,16,17,18,19] [12,14,16,17,18,19,122] [] ?_|refine rg 26 [12,14,16,17,18] [12,14,16,17,18,146] [(2,139)] ?_|refine rg 27 [12,14,16,17,18] [12,14,16,17,18] [] ?_|refine rg 28 [12,14,16,17,18] [12,14,17,18,172] [(3,152),(12,161),(15,164)] ?_|refine rg 30 [12,14,17,18] [12,14,16,17] [] ?_|refine nc ?_);simp (maxSteps:=1000000) [hF,hil,hnf,dFo,dEnt,hmd,hmd2,hi0,hwa,hla,hla2,hbn,hw])
       refine nextK.of [12,14,16,17] [0] (m - 1) (by omega) (by simp [hF]) ?_
       exact ⟨i + 1,by omega,by simp [hnext,hpo]⟩
     ·rw [if_neg hmd] at hpo
      have hmd2:0≤f.md:=by omega
      have hi0:¬ 0 < i:=fun h=>by have:=htl h;omega
      have hla:¬ (a:Int)≤la:=by omega
      repeat first|refine n1 ?_|refine n2 ?_|refine n4 ?_|refine n5 ?_|refine n6 ?_|refine n7 ?_|((first|refine rg 19 [12,14,16,17] [12,14,16,17] [] ?_|refine rg 22 [12,14,16,17,18,19] [12,14,16,17,18,19,122] [] ?_|refine rg 26 [12,14,16,17,18] [12,14,16,17,18,146] [(2,139)] ?_|refine rg 28 [12,14,16,17,18] [12,14,17,18,172] [(3,152),(12,161),(15,164)] ?_|refine rg 30 [12,14,17,18] [12,14,16,17] [] ?_|refine nc ?_);simp (maxSteps:=1000000) [hF,hil,hnf,dFo,dEnt,hmd,hmd2,hi0,hla,hbn,hw])
      refine nextK.of [12,14,16,17] [0] (m - 1) (by omega) (by simp [hF]) ?_
      exact ⟨i + 1,by omega,by simp [hnext,hpo]⟩
   ·repeat first|refine n1 ?_|refine n7 ?_|((first|refine rg 18 [12,14,16,17] [12,14,16,17,116] [] ?_|refine rg 31 [] [4] [] ?_|refine nc ?_);simp (maxSteps:=1000000) [hF,hil])
    refine (hsane).go [] (by simp (maxSteps:=1000000) [hF]) ?_;rintro av X κ ⟨rfl,rfl,rfl⟩;simp (maxSteps:=1000000) [hF]
    repeat first|refine n1 ?_
    (try refine nr ?_);(repeat first|refine nb_ ?_|refine nl_ ?_);refine endK.o [4] [] [] ?_;simp [hF,retK,covers,mpre]
  ·have he3:(ChainOf s (fitN q.thing s.L.length) nm W).2 = 3:=hcE.resolve_left he
   have hc:=ChainA_no true hok (fitN q.thing s.L.length) nm W false (by omega) he
   rw [he3] at hc
   clear hcE he he3
   generalize fitN q.thing s.L.length = t at *
   generalize ordL s.L t = od at *
   apply merged
   ·intro key
    repeat first|(((refine dr 11 0 [3,5,7] [3,5,7,11] [] [⟨0,8,18446744073709551616,5⟩,⟨1,18446744073709551616,36893488147419103232,6⟩,⟨2,36893488147419103232,73786976294838206464,5⟩,⟨0,32,147573952589676412928,5⟩,⟨8,147573952589676412928,295147905179352825856,6⟩,⟨16,295147905179352825856,590295810358705651712,5⟩,⟨32,590295810358705651712,1180591620717411303424,5⟩,⟨64,1180591620717411303424,2361183241434822606848,6⟩,⟨128,2361183241434822606848,4722366482869645213696,0⟩,⟨256,4722366482869645213696,9444732965739290427392,5⟩,⟨516,9518519942034128633856,18889465931478580854784,5⟩,⟨1024,18889465931478580854784,37778931862957161709568,5⟩,⟨4095,37778931862957161709568,2048,5⟩] (.take 0 (.take 3 (.take 4 (.take 5 (.take 6 (.take 7 (.fork (.alt 1 (.take 2 (.fork (.alt 8 (.take 9 (.take 10 (.take 11 (.take 12 (.done))))) (.nil)))) (.alt 8 (.take 1 (.take 2 (.take 9 (.take 10 (.take 11 (.take 12 (.done))))))) (.nil)))))))))) (.run [0,3,4,5,6,7] (.both (.run [1,2,8,9,10,11,12] (.done)) (.run [8,1,2,9,10,11,12] (.done)))) ?_;simp only [drs]));simp (maxSteps:=1000000) [hF,dAsk,dJJ,dTR,dR])
    (repeat' with_reducible refine And.intro ?_ ?_)
    all_goals
     refine (rLen_ok r.R).go [(3,[.d,.f 1])] (by simp (maxSteps:=1000000) [hF,dTR,dR,hlen,wU,hf1,wI,hnz]) ?_;rintro av X κ ⟨rfl,rfl,rfl⟩;simp (maxSteps:=1000000) [hF,dTR,dR,hlen,wU,hf1,wI,hnz]
     exact key ()
   repeat first|refine n1 ?_|((refine rg 12 [3,5,7,11] [3,5,7,11,12,13] [] ?_);simp (maxSteps:=1000000) [hF])
   refine (Lineage_ok true s).go [(2,[])] (by simp (maxSteps:=1000000) [hF,dTs,dL]) ?_;rintro av X κ ⟨rfl,rfl,rfl⟩;simp (maxSteps:=1000000) [hF,dTs,dL]
   refine (hO).go [(2,[.d,.f 0])] (by simp (maxSteps:=1000000) [hF,dTs,dL]) ?_;rintro av X κ ⟨rfl,rfl,rfl⟩;simp (maxSteps:=1000000) [hF,dTs,dL]
   repeat first|refine n1 ?_|(((refine drB 13 [3,5] 160 18 [3,5,7,11,12,13] [12,13,14,15] [] [⟨0,32,38685626227668133590597632,5⟩,⟨1,38685626227668133590597632,77371252455336267181195264,6⟩,⟨0,2048,154742504910672534362390528,5⟩,⟨0,8,309485009821345068724781056,5⟩,⟨8,309485009821345068724781056,618970019642690137449562112,6⟩,⟨16,618970019642690137449562112,1237940039285380274899124224,0⟩,⟨0,128,2475880078570760549798248448,5⟩,⟨102,3945933875222149626240958464,4951760157141521099596496896,0⟩,⟨128,4951760157141521099596496896,19342813113834066795298816,5⟩,⟨256,19342813113834066795298816,9903520314283042199192993792,5⟩,⟨256,19342813113834066795298816,19807040628566084398385987584,5⟩,⟨1023,9903520314283042199192993792,16384,5⟩,⟨4095,19807040628566084398385987584,32768,5⟩] (.take 0 (.take 1 (.take 2 (.take 3 (.take 4 (.take 6 (.fork (.alt 5 (.fork (.alt 7 (.take 8 (.take 9 (.take 10 (.take 11 (.take 12 (.done)))))) (.nil))) (.nil))))))))) (.run [0] (.chk 1 (.run [1,2,3] (.chk 4 (.run [4,6] (.chk 5 (.chk 7 (.run [8,9,10,11,12] (.done))))))))) ?_;simp only [drsB]));simp (maxSteps:=1000000) [hF,dAsk,dJJ])
   refine (name_ok q.n ⟨#[97]⟩).goB [] (by simp (maxSteps:=1000000) [hF,←hnm]) ?_;rintro av X κ ⟨rfl,rfl,rfl⟩;simp (maxSteps:=1000000) [hF,←hnm]
   refine (hc).goB [(2,[])] (by simp (maxSteps:=1000000) [hF,dTs,dL]) ?_;rintro av X κ ⟨rfl,rfl,rfl⟩;simp (maxSteps:=1000000) [hF,dTs,dL]
   refine VS.pick [12,13,14,15] [] (by simp [hF]) ?_;simp [hF]
   repeat first|refine n1 ?_|refine n2 ?_|refine n3 ?_|((first|refine rg 14 [12,13,14,15] [12,14,112] [(2,97),(5,100),(10,105)] ?_|refine rg 16 [12,14] [12,14,16] [] ?_|refine rg 17 [12,14,16] [12,14,16,17] [] ?_|refine nc ?_);simp (maxSteps:=1000000) [hF])
   refine VS.rounds (fun m st=>st = ⟨[(12,.imm 1 (dInts od) false),(14,.nils 6),(16,avInt (-1)),(17,avInt 0)],[],[],[]⟩) ⟨0,by simp⟩ ?_
   rintro m st rfl
   repeat first|refine n1 ?_|refine n7 ?_|((first|refine rg 18 [12,14,16,17] [12,14,16,17,116] [] ?_|refine rg 31 [] [4] [] ?_|refine nc ?_);simp (maxSteps:=1000000) [hF])
   refine (hsane).go [] (by simp (maxSteps:=1000000) [hF]) ?_;rintro av X κ ⟨rfl,rfl,rfl⟩;simp (maxSteps:=1000000) [hF]
   repeat first|refine n1 ?_
   (try refine nr ?_);(repeat first|refine nb_ ?_|refine nl_ ?_);refine endK.o [4] [] [] ?_;simp [hF,retK,covers,mpre]
end Go.Proofs.YtbhigdljojlhnaaGreat

/- More of Wq. -/
namespace Go.Vc
set_option linter.all false
open T (hdr blk)
theorem reads_bool {P:Program} {t:TypeId} (ht:P.underlying t = some .bool):Reads P t 1 fun d=>∃ b,d = .val (.bool b):=fun H enc w fuel cs x h=>by
 obtain ⟨b,rfl,_⟩:=DataW.trod_bool ht h
 exact ⟨.val (.bool b),rfl,rfl,rfl,rfl,b,rfl⟩
theorem erase_agg {g:G} {s:D} (h:g.erase = .agg s):∃ s',g = .agg s'∧s'.erase = s:=by
 cases g <;> simp only [T.erase] at h <;> cases h
 exact ⟨_,rfl,rfl⟩
theorem erase_cons {g:G} {a t:D} (h:g.erase = .cons a t):∃ a' t',g = .cons a' t'∧a'.erase = a∧t'.erase = t:=by
 cases g <;> simp only [T.erase] at h <;> cases h
 exact ⟨_,_,rfl,rfl,rfl⟩
theorem erase_val {g:G} {v:Value} (h:g.erase = .val v):g = .val v:=by
 cases g <;> simp only [T.erase] at h <;> cases h
 rfl
theorem erase_nil {g:G} (h:g.erase = .nil):g = .nil:=by
 cases g <;> simp only [T.erase] at h <;> cases h
 rfl
end Go.Vc

/- The arguments of the laws: a question. -/
namespace Go.Proofs.YtbhigdljojlhnaaGreat
set_option linter.all false
open Go.Vc Go.Proofs Go
set_option maxRecDepth 100000
theorem erase_sl {g:G} {z:Nat} {d:D} (h:g.erase = .sl false () z d):∃ v s,g = .sl false v z s∧s.erase = d:=by
 cases g <;> simp only [T.erase,reduceCtorEq] at h
 simp only [T.sl.injEq,true_and] at h
 obtain ⟨rfl,rfl,h⟩:=h
 exact ⟨_,_,rfl,h⟩
abbrev dAskS (q:MAsk):D:=.agg (.cons (.val (.int .i64 q.thing)) (.cons (.val (.int .i64 q.n)) (.cons (.val (.int .i64 q.at_)) (.cons (.val (.int .i64 q.md)) (.cons (.val (.int .i64 q.frm)) (.cons (.val (.int .i64 q.vis)) (.cons (.val (.string q.name)) (.cons (.val (.bool q.self)) (.cons (.sl false () 1 (dInts q.act)) .nil)))))))))
theorem reads_ask:Reads Tryz.prog 58 9 fun d=>∃ q:MAsk,q.act.length≤2 ^ 63 - 1∧d = dAskS q:=by
 have h:=reads_struct (gs:=[(1,isI),(1,isI),(1,isI),(1,isI),(1,isI),(1,isI),(1,fun d=>∃ n,d = .val (.string n)),(1,fun d=>∃ b,d = .val (.bool b)),(1,fun d=>∃ l:List D,(∀ x∈l,isI x)∧l.length≤2 ^ 63 - 1∧d = .sl false () 1 (sq l))]) Tryz.underlying58
  ⟨reads_int Tryz.underlying3,by kernel_rfl,rfl,reads_int Tryz.underlying3,by kernel_rfl,rfl,reads_int Tryz.underlying3,by kernel_rfl,rfl,reads_int Tryz.underlying3,by kernel_rfl,rfl,reads_int Tryz.underlying3,by kernel_rfl,rfl,reads_int Tryz.underlying3,by kernel_rfl,rfl,
   reads_str Tryz.underlying9,by kernel_rfl,rfl,reads_bool Tryz.underlying4,by kernel_rfl,rfl,reads_slice Tryz.underlying33 (reads_int Tryz.underlying3) (by kernel_rfl) (by omega),by kernel_rfl,rfl,trivial⟩ (by kernel_rfl)
 refine fun H enc w fuel cs x hx=>?_
 obtain ⟨g,h1,h2,h3,h4,s,h5,a1,t1,rfl,⟨n1,rfl⟩,a2,t2,rfl,⟨n2,rfl⟩,a3,t3,rfl,⟨n3,rfl⟩,a4,t4,rfl,⟨n4,rfl⟩,a5,t5,rfl,⟨n5,rfl⟩,a6,t6,rfl,⟨n6,rfl⟩,a7,t7,rfl,⟨s7,rfl⟩,a8,t8,rfl,⟨b8,rfl⟩,a9,t9,rfl,⟨l,k1,k2,rfl⟩,rfl⟩:=h H enc w fuel cs x hx
 obtain ⟨ys,rfl⟩:=map_of k1
 exact ⟨g,h1,h2,h3,h4,⟨n1,n2,n3,n4,n5,n6,s7,b8,ys⟩,by simpa using k2,h5⟩
section
variable {H:Type} {enc:TypeId×Value→H} {w:World} {r:Go.Reach} {b0:Nat} {v:Value} {d:DataW H} {ps:List MemPlace}
theorem ask_of (hv:Value.okWide Tryz.prog w r b0 58 v) (h:DataW.Trod enc Tryz.prog w 0 (fun _=>true) true 58 v d ps) :
  ∃ q:MAsk,q.act.length≤2 ^ 63 - 1∧Rl w.heap (allB w) [] (avAsk q) true [v]:=by
 obtain ⟨fuel,h⟩:=h
 obtain ⟨cs,rfl,_⟩:∃ cs,v = .agg cs∧True:=by
  unfold Value.okWide at hv
  rw [Tryz.underlying58] at hv
  obtain ⟨cs,h1,_⟩:=hv
  exact ⟨cs,h1,trivial⟩
 obtain ⟨g,h1,h2,h3,h4,q,hq,h5⟩:=reads_ask H enc w fuel _ _ h
 obtain ⟨s,rfl,h6⟩:=erase_agg h5
 obtain ⟨a1,t1,rfl,k1,q1⟩:=erase_cons h6
 obtain ⟨a2,t2,rfl,k2,q2⟩:=erase_cons q1
 obtain ⟨a3,t3,rfl,k3,q3⟩:=erase_cons q2
 obtain ⟨a4,t4,rfl,k4,q4⟩:=erase_cons q3
 obtain ⟨a5,t5,rfl,k5,q5⟩:=erase_cons q4
 obtain ⟨a6,t6,rfl,k6,q6⟩:=erase_cons q5
 obtain ⟨a7,t7,rfl,k7,q7⟩:=erase_cons q6
 obtain ⟨a8,t8,rfl,k8,q8⟩:=erase_cons q7
 obtain ⟨a9,t9,rfl,k9,q9⟩:=erase_cons q8
 obtain rfl:=erase_val k1
 obtain rfl:=erase_val k2
 obtain rfl:=erase_val k3
 obtain rfl:=erase_val k4
 obtain rfl:=erase_val k5
 obtain rfl:=erase_val k6
 obtain rfl:=erase_val k7
 obtain rfl:=erase_val k8
 obtain ⟨v9,s9,rfl,hs9⟩:=erase_sl k9
 obtain rfl:=erase_nil q9
 have h7:(Value.agg cs).cells.toList = cs.toList:=rfl
 rw [h7] at h3
 have hl:T.Holds w.heap (allB w) (.sl false v9 1 s9):=by
  simp only [T.Holds] at h1 ⊢
  exact h1.2.2.2.2.2.2.2.2.1
 refine ⟨q,hq,cs.toList,by simp,[.int .i64 q.thing],_,?_,⟨rfl,rfl⟩,[.int .i64 q.n],_,rfl,⟨rfl,rfl⟩,[.int .i64 q.at_],_,rfl,⟨rfl,rfl⟩,[.int .i64 q.md],_,rfl,⟨rfl,rfl⟩,[.int .i64 q.frm],_,rfl,⟨rfl,rfl⟩,[.int .i64 q.vis],_,rfl,⟨rfl,rfl⟩,
  [.string q.name],_,rfl,⟨rfl,rfl⟩,[.bool q.self],_,rfl,⟨rfl,rfl⟩,[v9],_,rfl,⟨v9,rfl,s9,hs9,hl,fun h=>by cases h⟩,rfl⟩
 rw [←h3];rfl
end
end Go.Proofs.YtbhigdljojlhnaaGreat

/- Proved: MethodChains returns true for every input, and its arguments read behind the call as before. No condition. -/
namespace Go.Proofs.YtbhigdljojlhnaaGreat.methodChains
set_option linter.all false
open Go.Vc Go.ChangeShapes Go.WideShapes Go.ChangeAt Go.RowKit
set_option linter.unusedVariables false
theorem own:ownKnob Tryz.prog.godebug = none:=by kernel_rfl
theorem laid:laidOutB Tryz.prog = true:=by kernel_rfl
set_option maxRecDepth 100000 in
theorem lifted (os:Os) (started:os.Started) (H:Type) (enc:TypeId×Value→H) :
  ReturnsInHanded {} Tryz.checked os 7 .any (Rows.methodChainsSpec.pre6 enc Tryz.prog Tryz.f7 Rows.methodChainsRow.domain false) (Rows.methodChainsSpec.post enc Tryz.prog Tryz.f7 false true false false):=by
 refine returnsInHanded_of_change (C:=Tryz.checked) own started (by kernel_rfl) Tryz.func7
  (ChangeSpec.witness6 (enc:=enc) (C:=Tryz.checked) false ⟨#[],#[.slice none 0 0,.agg #[.int .i64 0,.int .i64 0,.int .i64 0,.int .i64 0,.int .i64 0,.int .i64 0,.string ⟨#[]⟩,.bool false,.slice none 0 0]],[]⟩ 8 (by kernel_rfl) (by kernel_rfl) (by kernel_rfl) (by kernel_rfl)) ?_
 intro W base args ds gs before hval0 hW hcnd _
 have hval:∀ (j:Nat) t v,Tryz.f7.params[j]? = some t→args[j]? = some v→Value.okWide Tryz.prog W .any base t v:=hval0
 have hW':=hW
 obtain ⟨p,q,hA0,hV,rfl,hfz,hnd⟩:=hW
 have hA:DataW.TrodAll enc Tryz.prog W 0 (fun _=>true) true Tryz.f7.params.toList args.toList ds p:=hA0
 rw [Tryz.params7] at hA hval
 obtain ⟨v0,vs0,d0,ds0,p0,q0,hargs0,rfl,rfl,h0,r0⟩:=trodAll_cons hA
 obtain ⟨v1,vs1,d1,ds1,p1,q1,hargs1,rfl,rfl,h1,r1⟩:=trodAll_cons r0
 obtain ⟨rfl,rfl,rfl⟩:=trodAll_nil r1
 subst hargs1
 obtain rfl:args = #[v0,v1]:=by cases args;simp_all
 obtain ⟨rfl,rfl⟩:=trodVars_none hV
 obtain ⟨a0,hlen0,hr0⟩:=deeds_of (hval 0 22 v0 rfl rfl) h0
 obtain ⟨a1,hlen1,hr1⟩:=ask_of (hval 1 58 v1 rfl rfl) h1
 clear hA0 hval0
 have hwalk:Calls Tryz.prog 7 #[v0,v1] W fun e w'=>e = .returned (.bool true)∧Below W.heap.size W w' :=
  Meets.law ((Meets.mono (methodChains_ok a0 false hlen0 a1 hlen1) fun _ _ _ h=>h.1)) (vs:=[v0,v1]) (I:=allB W) (fun _ h=>h) ⟨v0,_,rfl,hr0,⟨v1,_,rfl,hr1,rfl⟩⟩
 refine hwalk.mono fun e W' ⟨he,bel⟩=>?_
 subst he
 exact ⟨_,rfl,_,_,_,[],_,[],hW',trodAll_mk1 (shut_bool Tryz.underlying4 _),(trodAll_cons_mk (Below.trod laid (by kernel_rfl) (of_decide_eq_true (by kernel_rfl)) h0 bel fun x hx=>hW'.lt x (by simp [hx])) (trodAll_cons_mk (Below.trod laid (by kernel_rfl) (of_decide_eq_true (by kernel_rfl)) h1 bel fun x hx=>hW'.lt x (by simp [hx])) trodAll_mk0)),rfl,bel.frame _,fun h=>by cases h⟩
theorem over:Rows.methodChainsRow.holds Tryz.pinned (OpenSpec.ofChange Rows.methodChainsSpec) :=
 OpenClaim.holds_of_wide 7 Tryz.f7 rfl rfl rfl rfl rfl rfl rfl ⟨rfl,rfl,rfl,rfl,rfl⟩ rfl rfl rfl rfl rfl (by kernel_rfl) Tryz.func7 (by kernel_rfl)
  (of_decide_eq_true (by kernel_rfl)) (by unfold Func.isWrapper;first | (rw [if_pos (by decide +kernel)];kernel_rfl) | (rw [if_neg (by decide +kernel)];exact ⟨rfl,rfl⟩))
  (fun os started H enc _=>lifted os started H enc)
theorem proved:Rows.MethodChainsSaid :=
 over
end Go.Proofs.YtbhigdljojlhnaaGreat.methodChains
