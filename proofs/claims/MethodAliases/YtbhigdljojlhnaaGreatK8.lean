/- More of Ib. -/
import Derived.Test.YtbhigdljojlhnaaGreatK7
import Derived.Test.YtbhigdljojlhnaaGreatK5
import Derived.Laws.BytesString
import Derived.Test.YtbhigdljojlhnaaGreatRows
import Derived.WalkKit
import Derived.ProofKit
import Derived.OpenShut
import Derived.ShutString
import Derived.ChangeOld
import Derived.Carry
namespace Go.Proofs.YtbhigdljojlhnaaGreat
set_option linter.all false
open Go.Vc Go.Proofs
def nextN (s:ByteArray):ByteArray:=if 40 < (s ++ (⟨#[110]⟩:ByteArray)).size then ⟨#[s[0]! + 1]⟩ else s ++ (⟨#[110]⟩:ByteArray)
def candL (j:Nat):List UInt8:=if j < 40 then List.replicate (j + 1) 110 else 111 :: List.replicate (j - 40) 110
def cand (j:Nat):ByteArray:=⟨(candL j).toArray⟩
theorem candL_len (j:Nat):(candL j).length = if j < 40 then j + 1 else j - 40 + 1:=by
 unfold candL
 split <;> simp
theorem cand_size (j:Nat):(cand j).size = if j < 40 then j + 1 else j - 40 + 1:=by
 show (candL j).toArray.size = _
 rw [List.size_toArray,candL_len]
theorem cand_nm {j:Nat} (h:j < 80):isNm (cand j) = true:=by
 unfold isNm
 rw [cand_size]
 split <;> simp <;> omega
theorem cand_head (j:Nat):(candL j).head? = some 110∨(candL j).head? = some 111:=by
 unfold candL
 split
 ·exact .inl (by simp [List.replicate_succ])
 ·exact .inr rfl
theorem cand_inj {i j:Nat} (hi:i < 80) (hj:j < 80) (h:cand i = cand j):i = j:=by
 have h1:candL i = candL j:=by
  have:=congrArg (fun b:ByteArray=>b.data.toList) h
  simpa [cand] using this
 have hl:=congrArg List.length h1
 rw [candL_len,candL_len] at hl
 have hh:=congrArg List.head? h1
 unfold candL at hh
 split at hl <;> split at hl
 ·omega
 ·rename_i a b;rw [if_pos a,if_neg b] at hh;simp [List.replicate_succ] at hh
 ·rename_i a b;rw [if_neg a,if_pos b] at hh;simp [List.replicate_succ] at hh
 ·omega
theorem cand_ne {j:Nat} {s:ByteArray} (h:s = fA∨s = fB∨s = fC∨s = fF):cand j≠s:=by
 intro e
 have h1:candL j = s.data.toList:=by
  have:=congrArg (fun b:ByteArray=>b.data.toList) e
  simpa [cand] using this
 have hh:=cand_head j
 rw [h1] at hh
 rcases h with rfl | rfl | rfl | rfl <;> simp at hh
theorem app_n (l:List UInt8):((⟨l.toArray⟩:ByteArray) ++ (⟨#[110]⟩:ByteArray)) = ⟨(l ++ [110]).toArray⟩:=by
 apply ByteArray.ext
 show _ = (l ++ [110]).toArray
 rw [ByteArray.data_append]
 simp
theorem rep_snoc (n:Nat):List.replicate n (110:UInt8) ++ [110] = List.replicate (n + 1) 110:=by rw [List.replicate_succ']
theorem next_cand {j:Nat} (h:j < 79):nextN (cand j) = cand (j + 1):=by
 unfold nextN
 rw [cand,app_n]
 have hs:(⟨(candL j ++ [110]).toArray⟩:ByteArray).size = (candL j).length + 1:=by show (candL j ++ [110]).toArray.size = _;simp
 rw [hs]
 have hl:=candL_len j
 by_cases h1:j < 39
 ·rw [if_pos (by omega)] at hl
  rw [hl,if_neg (by omega)]
  unfold cand candL
  rw [if_pos (by omega),if_pos (by omega),rep_snoc]
 ·by_cases h2:j = 39
  ·subst h2
   rw [if_pos (by omega)] at hl
   rw [hl,if_pos (by omega)]
   rfl
  ·rw [if_neg (by omega)] at hl
   rw [hl,if_neg (by omega)]
   unfold cand candL
   rw [if_neg (by omega),if_neg (by omega)]
   show (⟨(111 :: (List.replicate (j - 40) 110 ++ [110])).toArray⟩:ByteArray) = _
   rw [rep_snoc,show j - 40 + 1 = j + 1 - 40 by omega]
theorem cand_few {l:List ByteArray} {j:Nat} (hj:j≤80) (h:∀ i,i < j→cand i∈l):j≤l.length:=by
 have hd:∀ i,candL i = (cand i).data.toList:=fun i=>by simp [cand]
 have hn:((List.range j).map candL).Nodup:=by
  rw [List.nodup_iff_pairwise_ne,List.pairwise_map]
  refine List.Pairwise.imp_of_mem (fun {a b} ha hb hab=>?_) List.nodup_range
  rw [List.mem_range] at ha hb
  exact fun e=>hab (cand_inj (by omega) (by omega) (by unfold cand;rw [e]))
 have hsub:∀ x∈(List.range j).map candL,x∈l.map fun b=>b.data.toList:=fun x hx=>by
  obtain ⟨i,hi,rfl⟩:=List.mem_map.1 hx
  exact List.mem_map.2 ⟨_,h i (List.mem_range.1 hi),(hd i).symm⟩
 have:∀ (a b:List (List UInt8)),a.Nodup→(∀ x∈a,x∈b)→a.length≤b.length:=by
  intro a
  induction a with
  | nil=>intro b _ _;simp
  | cons x a ih =>
   intro b hn hs
   simp only [List.nodup_cons] at hn
   have hx:=hs x (by simp)
   have:=ih (b.erase x) hn.2 fun y hy=>(List.mem_erase_of_ne (fun e:y = x=>hn.1 (by rw [←e];exact hy))).2 (hs y (by simp [hy]))
   rw [List.length_erase_of_mem hx] at this
   have hb:0 < b.length:=List.length_pos_of_mem hx
   simp only [List.length_cons];omega
 have:=this _ _ hn hsub
 simpa using this
theorem fresh_none {l:List MDeed} {j:Nat} (h:∀ d∈l,d.name≠cand j) (k:Key):lkp (playM l) k (cand j) = none:=by
 cases hg:lkp (playM l) k (cand j) with
 | none=>rfl
 | some e =>
  obtain ⟨d,hd,he⟩:=(playM_all l).2.2 _ _ _ hg
  exfalso
  unfold MDeed.nm nameOf at he
  repeat' split at he
  ·exact cand_ne (.inl rfl) he
  ·exact cand_ne (.inr (.inl rfl)) he
  ·exact cand_ne (.inr (.inr (.inl rfl))) he
  ·exact cand_ne (.inr (.inr (.inr rfl))) he
  ·exact h d hd he.symm
theorem firstOf_hit' {s:Mt} {t:Int} {n:ByteArray} {e:En} (hb:e.body≠-1) (he:lkp s (t,-1) n = some e):∀ {l:List Int},t∈l→(∀ x,x≠t→lkp s (x,-1) n = none)→firstOf s (l.map fun x=>(x,-1)) n = (⟨e,t,-1⟩,true)
 | x :: l,hm,hall=>by
  rw [List.map_cons]
  unfold firstOf
  by_cases h:x = t
  ·subst h;simp only [he,hb,ne_eq,not_false_eq_true,decide_true]
  ·rw [hall x h]
   exact firstOf_hit' hb he (by rcases List.mem_cons.1 hm with rfl | h2;exact absurd rfl h;exact h2) hall
theorem alias_find {s s':Mt} {t:Nat} (hs:MtOk s) (ht:t < s.L.length) {n old:ByteArray} {e:En} (hb:e.body≠-1) (hno:n≠old) (hnone:∀ k,lkp s k n = none) (hnm:isNm n = true)
  (hc:Chg (putOf s (t,-1) n e) s' old) (hL:s'.L = s.L):FindOf s' t n [] = (⟨e,t,-1⟩,0):=by
 have hs1:=hs.put (t,-1) n e
 have hk:∀ k,lkp s' k n = lkp (putOf s (t,-1) n e) k n:=fun k=>by
  rcases hc with h | ⟨k',e',h,_⟩ | ⟨k',h⟩
  ·rw [lkp_tabs h]
  ·rw [lkp_tabs h,lkp_put,if_neg fun q=>hno q.2]
  ·rw [lkp_tabs h,lkp_del hs1,if_neg fun q=>hno q.2]
 have h1:lkp s' ((t:Int),-1) n = some e:=by rw [hk,lkp_put,if_pos ⟨rfl,rfl⟩]
 have h2:∀ x,x≠(t:Int)→lkp s' (x,-1) n = none:=fun x hx=>by
  rw [hk,lkp_put,if_neg fun q=>hx (congrArg Prod.fst q.1),hnone]
 have hv:val s'.L t = true:=by rw [hL];simp [val,ht]
 have ho:=(ordL_spec hs.ok.wf ht).2.1
 have hf:findOf s' t n [] = (⟨e,t,-1⟩,true):=by
  unfold findOf
  rw [places_nil,hL]
  exact firstOf_hit' hb h1 ho h2
 unfold FindOf
 rw [if_neg,hf]
 ·rfl
 ·simp [askE,hv,actB,hnm]
theorem super_lkp {s:Mt} {t:Int} {n:ByteArray} {th md:Int} {g:Fo} (h:superOf s t n th md = (g,true)):lkp s (g.th,g.md) n = some g.e:=by
 rw [superOf_eq] at h
 split at h
 ·obtain ⟨i,hi,h1,h2,h3,_⟩:=firstOf_hit h
  exact h2
 ·cases h
theorem chainF_spec {s:Mt} (hE:EB s) {t:Int} {n:ByteArray} (hn:(ordL s.L t).Nodup):∀ (k:Nat) (f:Fo),f.th∈ordL s.L t→0≤f.e.body →
  (chainF s t n k f).Pairwise (fun a b=>posn (ordL s.L t) a < posn (ordL s.L t) b)∧(∀ x∈chainF s t n k f,x.th∈ordL s.L t∧0≤x.e.body∧posn (ordL s.L t) f≤posn (ordL s.L t) x)∧∀ x∈(chainF s t n k f).tail,x.md = -1
 | 0,f,_,_=>⟨List.Pairwise.nil,(fun x hx=>by cases hx),fun x hx=>by cases hx⟩
 | k + 1,f,hf,hb=>by
  unfold chainF
  cases hs:(superOf s t n f.th f.md).2 with
  | false =>
   simp only [Bool.false_eq_true,if_false]
   refine ⟨List.pairwise_singleton _ _,fun x hx=>?_,fun x hx=>by cases hx⟩
   rw [List.mem_singleton] at hx;subst hx
   exact ⟨hf,hb,Nat.le_refl _⟩
  | true =>
   simp only [if_true]
   have hs':superOf s t n f.th f.md = ((superOf s t n f.th f.md).1,true):=by rw [←hs]
   obtain ⟨g1,g2,g3,g4⟩:=super_pos hn hs'
   have g5:=hE _ _ _ (super_lkp hs')
   generalize (superOf s t n f.th f.md).1 = g at *
   obtain ⟨i1,i2,i3⟩:=chainF_spec hE hn k g g1 (by omega)
   refine ⟨List.pairwise_cons.2 ⟨fun x hx=>by have:=(i2 x hx).2.2;omega,i1⟩,fun x hx=>?_,fun x hx=>?_⟩
   ·rcases List.mem_cons.1 hx with rfl | hx
    ·exact ⟨hf,hb,Nat.le_refl _⟩
    ·have:=i2 x hx;exact ⟨this.1,this.2.1,by omega⟩
   ·rw [List.tail_cons] at hx
    cases k with
    | zero=>cases hx
    | succ k =>
     unfold chainF at hx i3
     rcases List.mem_cons.1 hx with rfl | hx
     ·exact g2
     ·exact i3 x (by simpa using hx)
theorem chain_spec {s:Mt} (hs:MtOk s) (hE:EB s) {t:Nat} (ht:t < s.L.length) {n:ByteArray} {act:List Int} (h0:(ChainOf s t n act).2 = 0) :
  0 < (ChainOf s t n act).1.length∧(ChainOf s t n act).1.Pairwise (fun a b=>posn (ordL s.L t) a < posn (ordL s.L t) b)∧(∀ x∈(ChainOf s t n act).1,x.th∈ordL s.L t∧0≤x.e.body)∧∀ x∈(ChainOf s t n act).1.tail,x.md = -1:=by
 have hn:=(ordL_spec hs.ok.wf ht).1
 have hF0:(FindOf s t n act).2 = 0:=by
  unfold ChainOf at h0
  split at h0
  ·rename_i h;exact absurd h0 h
  ·rename_i h;simpa using h
 have hFe:(FindOf s t n act).1 = (findOf s t n act).1∧(findOf s t n act).2 = true:=by
  unfold FindOf at hF0 ⊢
  split at hF0
  ·exact absurd hF0 (by assumption)
  ·rename_i ha0
   rw [if_neg ha0]
   unfold toldOf at hF0 ⊢
   split at hF0
   ·cases hF0
   ·rename_i hb
    rw [if_neg hb]
    exact ⟨rfl,by simpa using hb⟩
 have hm:=find_mem (s:=s) (t:=(t:Int)) (n:=n) (act:=act) (f:=(findOf s t n act).1) (by rw [←hFe.2])
 have hl:=findOf_lkp hFe.2
 have hb:=hE _ _ _ hl.1
 have hc:ChainOf s t n act = (chainF s t n (2 * (ordL s.L t).length + 2) (findOf s t n act).1,0):=by
  unfold ChainOf
  rw [if_neg (by rw [hF0];simp),hFe.1]
 rw [hc]
 obtain ⟨i1,i2,i3⟩:=chainF_spec hE hn (n:=n) (2 * (ordL s.L t).length + 2) (findOf s t n act).1 hm.1 (by have:=hl.2;omega)
 refine ⟨?_,i1,fun x hx=>⟨(i2 x hx).1,(i2 x hx).2.1⟩,i3⟩
 show 0 < (chainF s t n (2 * (ordL s.L t).length + 1 + 1) _).length
 rw [chainF];simp
theorem tab_5:tab 5 = { ld:=some (false,1),zero:=some (.val (.int .u8 0)),int:=some .u8 }:=rfl
theorem tab_58:tab 58 = { ld:=some (true,9),zero:=some (.agg (.cons (.val (.int .i64 0)) (.cons (.val (.int .i64 0)) (.cons (.val (.int .i64 0)) (.cons (.val (.int .i64 0)) (.cons (.val (.int .i64 0)) (.cons (.val (.int .i64 0)) (.cons (.val (.string ⟨#[]⟩)) (.cons (.val (.bool false)) (.cons (.sl true (.slice none 0 0) 1 .nil) .nil)))))))))),st:=some [(0,1),(1,1),(2,1),(3,1),(4,1),(5,1),(6,1),(7,1),(8,1)] }:=rfl
theorem tab_72:tab 72 = { sl:=some (5,1,1,(.int .u8 0)),ld:=some (false,1),zero:=some (.sl true (.slice none 0 0) 1 .nil) }:=rfl
def tabd_5:=@tab_5
def tabd_58:=@tab_58
def tabd_72:=@tab_72
attribute [simp] tabd_5 tabd_58 tabd_72
end Go.Proofs.YtbhigdljojlhnaaGreat

/- A question. -/
namespace Go.Proofs.YtbhigdljojlhnaaGreat
set_option linter.all false
open Go.Vc Go.Proofs
set_option linter.unusedSimpArgs false
set_option linter.unusedVariables false
set_option maxRecDepth 100000
set_option maxHeartbeats 4000000
structure MAsk where
 thing:Int
 n:Int
 at_:Int
 md:Int
 frm:Int
 vis:Int
 name:ByteArray
 self:Bool
 act:List Int
abbrev avAsk (q:MAsk):AV:=.agg (.cons (avInt q.thing) (.cons (avInt q.n) (.cons (avInt q.at_) (.cons (avInt q.md) (.cons (avInt q.frm) (.cons (avInt q.vis) (.cons (.val (.string q.name)) (.cons (avBool q.self) (.cons (.imm 1 (dInts q.act) false) .nil)))))))))
def dAsk (q:MAsk):D:=.box true () (.agg (.cons (.val (.int .i64 q.thing)) (.cons (.val (.int .i64 q.n)) (.cons (.val (.int .i64 q.at_)) (.cons (.val (.int .i64 q.md)) (.cons (.val (.int .i64 q.frm)) (.cons (.val (.int .i64 q.vis)) (.cons (.val (.string q.name)) (.cons (.val (.bool q.self)) (.cons (.sl false () 1 (dInts q.act)) .nil))))))))))
@[simp high] theorem head_dAsk (q:MAsk):isHead (dAsk q) = true:=by rw [dAsk,isHead]
theorem nameOf_nm (n:Int) {s:ByteArray} (h:isNm s = true):isNm (nameOf n s) = true:=by
 unfold nameOf
 repeat' split
 all_goals first | exact h | decide
end Go.Proofs.YtbhigdljojlhnaaGreat

/- More of Wq. -/
namespace Go.Vc
set_option linter.all false
open T (hdr blk)
theorem reads_bool {P:Program} {t:TypeId} (ht:P.underlying t = some .bool):Reads P t 1 fun d=>∃ b,d = .val (.bool b):=fun H enc w fuel cs x h=>by
 obtain ⟨b,rfl,_⟩:=DataW.trod_bool ht h
 exact ⟨.val (.bool b),rfl,rfl,rfl,rfl,b,rfl⟩
theorem erase_agg {g:G} {s:D} (h:g.erase = .agg s):∃ s',g = .agg s'∧s'.erase = s:=by
 cases g <;> simp only [T.erase] at h <;> cases h
 exact ⟨_,rfl,rfl⟩
theorem erase_cons {g:G} {a t:D} (h:g.erase = .cons a t):∃ a' t',g = .cons a' t'∧a'.erase = a∧t'.erase = t:=by
 cases g <;> simp only [T.erase] at h <;> cases h
 exact ⟨_,_,rfl,rfl,rfl⟩
theorem erase_val {g:G} {v:Value} (h:g.erase = .val v):g = .val v:=by
 cases g <;> simp only [T.erase] at h <;> cases h
 rfl
theorem erase_nil {g:G} (h:g.erase = .nil):g = .nil:=by
 cases g <;> simp only [T.erase] at h <;> cases h
 rfl
end Go.Vc

/- Regions whose operations are taken one by one, so that some may have rules of their own: a text's byte, a text of bytes. -/
namespace Go.Vc
set_option linter.all false
open T (hdr blk)
set_option linter.unusedSimpArgs false
def XOp (c:Cx) (st:St) (o:Oper) (K:AV→St→Prop):Prop :=
 ∀ a w,Rel c st a w→∀ (next:Act→World→Prop) (Q:Exit→Act→World→Prop),(∀ av v st' w',K av st'→RelR c st' av v a w'→next (a.put o.dst v) w')→o.wp c.P a w next Q
theorem XOp.of {c:Cx} {τ:Tab} (hτ:Tab.Ok c.P τ) {st:St} {o:Oper} {K:AV→St→Prop} (h:opVc c τ o st K):XOp c st o K :=
 fun _ _ hr _ _ hn=>op_ok hτ hr h fun av v st' w' h1 h2 _=>hn av v st' w' h1 h2
def opsX (c:Cx):List Oper→St→(St→Prop)→Prop
 | [],st,K=>K st
 | o :: r,st,K=>o.guard = none∧XOp c st o fun av st'=>opsX c r (st'.put o.dst av) K
theorem opsX_ok {c:Cx} {all:List Oper} {Q:Exit→Act→World→Prop} {K:St→Prop} (hQ:∀ st a w,K st→Rel c st a w→Q .normal a w) :
  ∀ (l:List Oper) (st:St) (a:Act) (w:World),dstsOk c.nt l = true→Rel c st a w→opsX c l st K→wpList c.P all.toArray Q l a w
 | [],st,a,w,_,h,hv=>hQ st a w hv h
 | o :: r,st,a,w,hl,h,hv=>by
  simp only [dstsOk,List.all_cons,Bool.and_eq_true] at hl
  have hdst:∀ t,o.dst = some t→t < c.nt:=fun t ht=>by
   have:=hl.1;rw [ht] at this;exact Nat.le_of_ble_eq_true this
  obtain ⟨hg,hv⟩:=hv
  unfold wpList
  rw [if_pos (guardOf_ok (gs:=[]) (st:=st) rfl h (by rw [hg];rfl))]
  refine .inl (hv a w h _ _ fun av v st' w' h1 h2=>?_)
  exact opsX_ok hQ r _ _ w' hl.2 (h2.put hdst) h1
theorem VS.regionX {c:Cx} {l:List Code} {K:Exit→St→Prop} {st:St} {id:Nat} {ops:List Oper} (hd:dstsOk c.nt ops = true) (h:opsX c ops st (VS c l K)):VS c (.region id ops.toArray false :: l) K st:=by
 rw [VS_cons]
 intro a w hr
 refine wp_region_list ?_
 have:=opsX_ok (all:=ops) (Q:=fun e a w=>∃ st',thenK (VS c l K) K e st'∧Rel c st' a w) (fun st a w h1 h2=>⟨st,h1,h2⟩) ops st a w hd hr h
 simpa using this
theorem XOp.strIdx {c:Cx} {st:St} {dst:Option Tmp} {ty:TypeId} {pos:String} {after:Array Edge} {g:Option (Nat×Bool)} {t:TypeId} {x ix:Operand} {s:ByteArray} {k:IntKind} {i:Nat} {K:AV→St→Prop}
  (ht:c.P.underlying t = some .string) (hx:st.ev x = .val (.string s)) (hi:st.ev ix = .val (.int k i)) (hs:i < s.size) (h:K (.val (.int .u8 (s[i]'hs).toNat)) st) :
  XOp c st ⟨dst,.index t x ix,ty,pos,after,g⟩ K:=fun a w hr next Q hn=>by
 obtain ⟨hd,hz,I,F,hi',he,hp⟩:=id hr
 have h1:=he.ev x
 have h2:=he.ev ix
 rw [hx] at h1
 rw [hi] at h2
 obtain ⟨h1,_⟩:=h1
 obtain ⟨h2,_⟩:=h2
 simp only [List.cons.injEq,and_true] at h1 h2
 have hrun:(execOp a.eval ⟨dst,.index t x ix,ty,pos,after,g⟩).run c.P w = .ok (.value (.int .u8 (s[i]'hs).toNat)) w:=by
  simp [execOp,h1,h2,Instr.index,asIntOf,run_underlying ht,hs]
 unfold Oper.wp
 rw [hrun]
 exact hn _ _ st w h ⟨hd,hz,I,F,hi',he,hp,rfl,rfl⟩
theorem XOp.byteStr {c:Cx} {st:St} {dst:Option Tmp} {ty:TypeId} {pos:String} {after:Array Edge} {g:Option (Nat×Bool)} {src dt e:TypeId} {x:Operand} {k:Nat} {ex:Bool} {n:Int} {K:AV→St→Prop}
  (hs:c.P.underlying src = some (.slice e)) (hu:c.P.underlying e = some (.int .u8)) (ht:c.P.underlying dt = some .string) (hx:st.ev x = .sub k [] 0 1 ex) (hX:st.X[k]? = some (.sl true () 1 (.cons (.val (.int .u8 n)) .nil)))
  (h:K (.val (.string ⟨#[UInt8.ofNat n.toNat]⟩)) st) :
  XOp c st ⟨dst,.convert src dt x,ty,pos,after,g⟩ K:=fun a w hr next Q hn=>by
 obtain ⟨hd,hz,I,F,hi,he,hp⟩:=id hr
 have h1:=he.ev x
 rw [hx] at h1
 obtain ⟨own,a0,z,len,v,hh,h2,A,cc,rfl,q1,q2,q3,q4,q5⟩:=h1
 simp only [List.cons.injEq,and_true] at h2
 unfold hdrF at hh
 cases hg:F[k]? with
 | none=>rw [hg] at hh;simp at hh
 | some gk =>
  have hge:gk.erase = .sl true () 1 (.cons (.val (.int .u8 n)) .nil):=by
   have:=hi.erase
   rw [←this,List.getElem?_map,hg] at hX
   simpa using hX
  have hHg:=hi.holds gk (List.mem_of_getElem? hg)
  rw [hg] at hh
  cases gk <;> simp only [T.erase,reduceCtorEq] at hge
  rename_i o' a' z' s'
  simp only [T.sl.injEq,true_and] at hge
  obtain ⟨rfl,rfl,hse⟩:=hge
  obtain ⟨e1,e2,rfl,k1,k2⟩:=erase_cons hse
  obtain rfl:=erase_val k1
  obtain rfl:=erase_nil k2
  simp only [T.at_,hdr,Option.bind_some,Option.some.injEq,Prod.mk.injEq] at hh
  obtain ⟨rfl,rfl,rfl,rfl⟩:=hh
  obtain ⟨_,_,_,hA⟩:=hHg
  split at q5
  ·omega
  ·rename_i xx nn cap
   obtain ⟨y,rfl,r1,r2,r3,r4,r5⟩:=q5
   cases cap with
   | zero=>omega
   | succ cap =>
    obtain ⟨p1,p2,p3,p4,p5,row,e',fr,p6,p7,p8,p9⟩:=hA
    have hy:y.off = xx.off:=by have:=r5 (by omega);omega
    obtain ⟨yb,yo,ys⟩:=y
    simp only at r1 r2 r4 r5 hy
    subst r1
    subst hy
    subst r2
    have hrow:=p9 0 (.int .u8 n) rfl
    have hcell:∀ j v,([Value.int .u8 n]:List Value)[j]? = some v→w.cell? ((⟨xx.block,xx.off,none⟩:Addr).add j) = some v:=fun j v hj=>by
     cases j with
     | zero =>
      simp only [List.getElem?_cons_zero,Option.some.injEq] at hj
      subst hj
      rw [addr_add,cell_of_row w xx.block (xx.off + 0) row e' fr p6]
      exact hrow
     | succ j=>simp at hj
    have hl:=run_loadCells_list (P:=c.P) w ⟨xx.block,xx.off,none⟩ [.int .u8 n] hcell
    have hb:=run_bytesToString (P:=c.P) w ⟨xx.block,xx.off,none⟩ 1 cc [n] hl
    have hc:=run_convert_bytes_string w src dt e (some ⟨xx.block,xx.off,none⟩) 1 cc hs hu ht
    rw [hb] at hc
    have hrun:(execOp a.eval ⟨dst,.convert src dt x,ty,pos,after,g⟩).run c.P w = .ok (.value (.string ⟨#[UInt8.ofNat n.toNat]⟩)) w:=by
     simp only [execOp,h2]
     exact run_v hc
    unfold Oper.wp
    rw [hrun]
    exact hn _ _ st w h ⟨hd,hz,I,F,hi,he,hp,rfl,rfl⟩
  ·exact q5.elim
end Go.Vc

/- A name that no deed has: the walk. -/
namespace Go.Proofs.YtbhigdljojlhnaaGreat
set_option linter.all false
open Go.Vc Go.Proofs
set_option linter.unusedSimpArgs false
set_option linter.unusedVariables false
set_option maxRecDepth 100000
set_option maxHeartbeats 4000000
attribute [local irreducible] CallW EqK
theorem cand_39:cand 39 ++ (⟨#[110]⟩:ByteArray) = ⟨(List.replicate 41 110).toArray⟩:=by decide
theorem taken_few {l:List MDeed} {j:Nat} (hj:j≤80) (h:∀ k,k < j→∃ d∈l.take 60,d.name = cand k):j≤60:=by
 have:=cand_few (l:=(l.take 60).map (·.name)) hj fun i hi=>by
  obtain ⟨d,hd,he⟩:=h i hi
  exact List.mem_map.2 ⟨d,hd,he⟩
 rw [List.length_map,List.length_take] at this
 omega
theorem fresh_ok (l:List MDeed) (ex:Bool):Meets Tryz.prog 9 [] (.cons (.imm 8 (dMds l) ex) .nil) fun av X κ=>∃ j,j≤60∧(∀ d∈l.take 60,d.name≠cand j)∧av = .val (.string (cand j))∧X = []∧κ = []:=by
 have c0:cand 0 = ⟨#[110]⟩:=rfl
 refine fb Tryz.func9 Tryz.ntmps9 [.tmp 2] fun w0 I0 F0 hF=>?_
 repeat first|refine n1 ?_|refine n3 ?_|((first|refine rg 0 [0] [0] [] ?_|refine rg 1 [0] [0,3] [] ?_|refine rg 2 [0,3] [0,3,4] [] ?_);simp (maxSteps:=1000000) [hF])
 refine VS.rounds (fun m st=>∃ (i j:Nat),m + 61 * j + i = 3720∧i≤60∧j≤60∧i≤l.length∧(∀ k,k < j→∃ d∈l.take 60,d.name = cand k)∧(∀ k,k < i→(hl:k < l.length)→l[k].name≠cand j) ∧
  st = ⟨[(0,.imm 8 (dMds l) ex),(3,.val (.string (cand j))),(4,avInt i)],[],[],[]⟩) ⟨3720,0,0,by omega,by omega,by omega,by omega,fun k hk=>absurd hk (by omega),fun k hk=>absurd hk (by omega),by simp [c0]⟩ ?_
 rintro m st ⟨i,j,hm,hi,hj,hil,htk,hno,rfl⟩
 have hw0:IntKind.i64.wrap (-1 + 1) = 0:=by decide
 have hw:IntKind.i64.wrap ((i:Int) + 1) = ((i + 1:Nat):Int):=by rw [IntWalk.i64_in _ (by omega)];rfl
 by_cases hgo:i < l.length∧i < 60
 ·obtain ⟨hlt,h60⟩:=hgo
  have h60':(i:Int) < 60:=by omega
  have hn:=dMds_nth hlt
  have hb1:(cand j).size + (⟨#[110]⟩:ByteArray).size≤9223372036854775807:=by
   rw [cand_size]
   show (if j < 40 then j + 1 else j - 40 + 1) + 1≤_
   split <;> omega
  by_cases hq:l[i].name = cand j
  ·have htk2:∀ k,k < j + 1→∃ d∈l.take 60,d.name = cand k:=fun k hk=>by
    rcases Nat.lt_succ_iff_lt_or_eq.1 hk with h | rfl
    ·exact htk k h
    ·exact ⟨l[i],List.mem_take_iff_getElem.2 ⟨i,by omega,rfl⟩,hq⟩
   have hj1:=taken_few (by omega) htk2
   have hnx:=next_cand (j:=j) (by omega)
   unfold nextN at hnx
   by_cases h39:j = 39
   ·subst h39
    obtain ⟨S,hS⟩:∃ S,S = cand 39 ++ (⟨#[110]⟩:ByteArray):=⟨_,rfl⟩
    have hsz:S.size = 41:=by rw [hS,cand_39];rfl
    have hSi:(40:Int) < S.size:=by omega
    have hz0:0 < S.size:=by omega
    have hb:(S[0]'hz0) = 110:=by subst hS;simp only [cand_39];rfl
    repeat first|refine n1 ?_|refine n2 ?_|refine n3 ?_|((first|refine rg 3 [0,3,4] [0,3,4,12] [(4,9)] ?_|refine rg 5 [0,3,4] [0,3,4,21] [] ?_|refine rg 6 [0,3] [0,3] [] ?_|refine rg 7 [0,3] [0,3,26] [] ?_|refine nc ?_);simp (maxSteps:=1000000) [hF,hlt,h60',hn,dMd,hq,←hS,hsz,hb1])
    refine VS.regionX (by kernel_rfl) ?_
    refine ⟨rfl,XOp.of tabOk ?_⟩
    simp
    refine ⟨rfl,XOp.strIdx (s:=S) (i:=0) Tryz.underlying9 (by simp) (by simp;rfl) hz0 ?_⟩
    rw [hb]
    refine ⟨rfl,XOp.of tabOk ?_⟩
    simp
    refine ⟨rfl,XOp.of tabOk ?_⟩
    simp
    have hw111:IntKind.u8.wrap 111 = 111:=by decide
    have hc40:cand 40 = ⟨#[111]⟩:=rfl
    have hof:UInt8.ofNat (111:Int).toNat = 111:=rfl
    refine ⟨rfl,XOp.byteStr (k:=0) (n:=111) (ex:=true) Tryz.underlying72 Tryz.underlying5 Tryz.underlying9 (by simp) (by simp [hw111]) ?_⟩
    refine ⟨rfl,XOp.of tabOk ?_⟩
    simp
    unfold opsX
    repeat first|refine n4 ?_|refine n5 ?_|refine n6 ?_|((first|refine rg 4 [0,3,4] [0,3,4] [] ?_|refine rg 9 [0,3] [0,3,4] [] ?_);simp (maxSteps:=1000000) [hF,hw0])
    refine nextK.of [0,3,4] [] ((m + i - 61)) (by omega) (by simp [hF]) ?_
    exact ⟨0,40,by omega,by omega,by omega,by omega,htk2,fun k hk=>absurd hk (by omega),by simp [hc40,hof];decide⟩
   ·have hs:¬ 40 < (cand j ++ (⟨#[110]⟩:ByteArray)).size:=by
     rw [cand,app_n]
     show ¬ 40 < (candL j ++ [110]).toArray.size
     rw [List.size_toArray,List.length_append,candL_len]
     simp only [List.length_singleton]
     split <;> omega
    rw [if_neg hs] at hnx
    have hs1:(cand j ++ (⟨#[110]⟩:ByteArray)).size = (cand (j + 1)).size:=by rw [hnx]
    have hs2:¬ (40:Int) < (cand (j + 1)).size:=by omega
    have hs3:¬ 40 < (cand (j + 1)).size:=by omega
    repeat first|refine n1 ?_|refine n2 ?_|refine n3 ?_|refine n4 ?_|refine n5 ?_|refine n6 ?_|((first|refine rg 3 [0,3,4] [0,3,4,12] [(4,9)] ?_|refine rg 4 [0,3,4] [0,3,4] [] ?_|refine rg 5 [0,3,4] [0,3,4,21] [] ?_|refine rg 6 [0,3] [0,3] [] ?_|refine rg 7 [0,3] [0,3,26] [] ?_|refine rg 9 [0,3] [0,3,4] [] ?_|refine nc ?_);simp (maxSteps:=1000000) [hF,hlt,h60',hn,dMd,hq,hnx,hs2,hs3,hw0,hb1])
    refine nextK.of [0,3,4] [] ((m + i - 61)) (by omega) (by simp [hF]) ?_
    exact ⟨0,j + 1,by omega,by omega,by omega,by omega,htk2,fun k hk=>absurd hk (by omega),by simp;decide⟩
  ·repeat first|refine n1 ?_|refine n2 ?_|refine n3 ?_|refine n4 ?_|refine n5 ?_|refine n6 ?_|((first|refine rg 3 [0,3,4] [0,3,4,12] [(4,9)] ?_|refine rg 4 [0,3,4] [0,3,4] [] ?_|refine rg 5 [0,3,4] [0,3,4,21] [] ?_|refine nc ?_);simp (maxSteps:=1000000) [hF,hlt,h60',hn,dMd,hq,hw])
   refine nextK.of [0,3,4] [] (m - 1) (by omega) (by simp [hF]) ?_
   refine ⟨i + 1,j,by omega,by omega,by omega,by omega,htk,fun k hk hl=>?_,by simp⟩
   rcases Nat.lt_succ_iff_lt_or_eq.1 hk with h | rfl
   ·exact hno k h hl
   ·exact hq
 ·have hend:∀ d∈l.take 60,d.name≠cand j:=fun d hd=>by
   obtain ⟨k,hk,rfl⟩:=List.mem_take_iff_getElem.1 hd
   exact hno k (by omega) (by omega)
  by_cases hlt:i < l.length
  ·have h60':¬ (i:Int) < 60:=by omega
   repeat first|refine n1 ?_|refine n7 ?_|((first|refine rg 3 [0,3,4] [0,3,4,12] [(4,9)] ?_|refine rg 10 [3] [2] [] ?_|refine nc ?_);simp (maxSteps:=1000000) [hF,hlt,h60'])
   (try refine nr ?_);(repeat first|refine nb_ ?_|refine nl_ ?_);refine endK.o [2] [] [] ?_;simp [hF,retK,covers,mpre]
   exact ⟨j,hj,hend,rfl⟩
  ·repeat first|refine n1 ?_|refine n7 ?_|((first|refine rg 3 [0,3,4] [0,3,4,12] [(4,9)] ?_|refine rg 10 [3] [2] [] ?_|refine nc ?_);simp (maxSteps:=1000000) [hF,hlt])
   (try refine nr ?_);(repeat first|refine nb_ ?_|refine nl_ ?_);refine endK.o [2] [] [] ?_;simp [hF,retK,covers,mpre]
   exact ⟨j,hj,hend,rfl⟩
end Go.Proofs.YtbhigdljojlhnaaGreat

/- More of Lf. -/
namespace Go.Proofs.YtbhigdljojlhnaaGreat
set_option linter.all false
open Go Go.Vc Go.Proofs
set_option maxHeartbeats 4000000
set_option maxRecDepth 100000
theorem eqEn {op:BinOp} {e:En} {K:AV→Prop} (h:eqVc op true K) :
  EqK Tryz.prog 41 op (.cons (avInt e.body) (.cons (avInt e.vis) (.cons (avInt e.home) (.cons (.val (.string e.known)) .nil)))) (.cons (avInt e.body) (.cons (avInt e.vis) (.cons (avInt e.home) (.cons (.val (.string e.known)) .nil)))) K:=by
 refine ⟨_,⟨Tryz.eqGuardType41,fun h I F xs ys w h1 h2=>?_⟩,h⟩
 rw [rl_ent h1,rl_ent h2]
 have key:∀ d,(Op.equalIn (d + 2) 41 (.agg #[.int .i64 e.body,.int .i64 e.vis,.int .i64 e.home,.string e.known]) (.agg #[.int .i64 e.body,.int .i64 e.vis,.int .i64 e.home,.string e.known])).run Tryz.prog w = .ok true w:=fun d=>by
  simp [Op.equalIn,run_underlying Tryz.underlying41,run_underlying Tryz.underlying3,run_underlying Tryz.underlying9,Tryz.stoodInHeld41,part,beqBytes]
 exact key 9998
end Go.Proofs.YtbhigdljojlhnaaGreat

/- An alias finds the same body, whatever happens to the old name. -/
namespace Go.Proofs.YtbhigdljojlhnaaGreat
set_option linter.all false
open Go.Vc Go.Proofs
set_option linter.unusedSimpArgs false
set_option linter.unusedVariables false
set_option maxRecDepth 100000
set_option maxHeartbeats 4000000
attribute [local irreducible] CallW EqK
theorem find_told {s:Mt} {t:Int} {old:ByteArray} (hv:val s.L t = true) (hn:isNm old = true):FindOf s t old [] = toldOf (findOf s t old []):=by
 unfold FindOf
 rw [if_neg (by simp [askE,hv,actB,hn])]
theorem chg0_of {s:Mt} {t:Int} {l:List ByteArray} (hv:val s.L t = true) (hn:l.all isNm = true) (hz:frz s t = false):chgE s t true l = 0:=by simp [chgE,askE,hv,hn,hz]
theorem alias_frz {s:Mt} {t:Int} {n old:ByteArray} (hv:val s.L t = true) (hn:isNm n = true) (ho:isNm old = true) (hz:frz s t = true):aliasOf s t n old = (s,13):=by
 have h:chgE s t true [n,old] = 13:=by simp [chgE,askE,hv,hn,ho,hz]
 unfold aliasOf
 rw [h];rfl
theorem alias_non {s:Mt} {t:Int} {n old:ByteArray} (hv:val s.L t = true) (hn:isNm n = true) (ho:isNm old = true) (hz:frz s t = false) (hf:(findOf s t old []).2 = false):aliasOf s t n old = (s,3):=by
 unfold aliasOf
 rw [if_neg (by rw [chg0_of hv (by simp [hn,ho]) hz];simp),if_pos hf]
theorem alias_yes {s:Mt} {t:Int} {n old:ByteArray} (hv:val s.L t = true) (hn:isNm n = true) (ho:isNm old = true) (hz:frz s t = false) (hf:(findOf s t old []).2 = true):aliasOf s t n old = (putOf s (t,-1) n (findOf s t old []).1.e,0):=by
 unfold aliasOf
 rw [if_neg (by rw [chg0_of hv (by simp [hn,ho]) hz];simp),if_neg (by rw [hf];simp)]
theorem define_L (s:Mt) (t:Int) (n:ByteArray) (b v:Int):(defineOf s t n b v).1.L = s.L:=by unfold defineOf;split <;> rfl
theorem undef_L (s:Mt) (t:Int) (n:ByteArray):(undefOf s t n).1.L = s.L:=by unfold undefOf;split;rfl;split <;> rfl
theorem remove_L (s:Mt) (t:Int) (n:ByteArray):(removeOf s t n).1.L = s.L:=by unfold removeOf;split;rfl;split <;> rfl
theorem show_L (s:Mt) (t:Int) (n:ByteArray) (v:Int):(showOf s t n v).1.L = s.L:=by unfold showOf;split;rfl;split <;> rfl
theorem fitN_small {k m:Nat} (h:k < m) (hb:k < 18446744073709551616):fitN (k:Int) m = k:=by
 have h1:IntKind.u64.wrap (k:Int) = (k:Int) % 18446744073709551616:=by simp [IntKind.wrap,IntKind.bits,IntKind.signed]
 unfold fitN
 rw [h1,Int.emod_eq_of_lt (by omega) (by omega),Int.tmod_eq_of_lt (by omega) (by omega)]
 rfl
theorem old_four (n:Int):nameOf (fitN n 4) ⟨#[]⟩ = fA∨nameOf (fitN n 4) ⟨#[]⟩ = fB∨nameOf (fitN n 4) ⟨#[]⟩ = fC∨nameOf (fitN n 4) ⟨#[]⟩ = fF:=by
 have h4:=(fitN_eq n (n:=4) (by omega)).2
 have h5:nameIx (fitN n 4) = fitN n 4:=fitN_small (by omega) (by omega)
 unfold nameOf
 rw [h5]
 rcases (by omega:fitN n 4 = 0∨fitN n 4 = 1∨fitN n 4 = 2∨fitN n 4 = 3) with h | h | h | h <;> simp [h]
theorem methodAliases_ok (l:List MDeed) (ex:Bool) (hl:l.length≤2 ^ 63 - 1) (q:MAsk) (hq:q.act.length≤2 ^ 63 - 1):Meets Tryz.prog 5 [] (.cons (.imm 8 (dMds l) ex) (.cons (avAsk q) .nil)) fun av X κ=>av = avBool true∧X = []∧κ = []:=by
 have hp:=played_ok l ex
 unfold PlayedR at hp
 have hfr:=fresh_ok l ex
 have hok:=(playM_all (l.take 60)).1
 have hnoneP:∀ j,(∀ d∈l.take 60,d.name≠cand j)→∀ k,lkp (playM (l.take 60)) k (cand j) = none:=fun j h k=>fresh_none h k
 generalize playM (l.take 60) = s at *
 refine fb Tryz.func5 Tryz.ntmps5 [.tmp 4] fun w0 I0 F0 hF=>?_
 repeat first|refine n1 ?_|((first|refine rg 0 [0,1] [0,3] [] ?_|refine rg 1 [0,3] [0,3,5,6] [] ?_);simp (maxSteps:=1000000) [hF,dBo,dTs,dL,dTR,dR])
 refine (hp).go [] (by simp (maxSteps:=1000000) [hF,dBo]) ?_;rintro av X κ ⟨r,T,rfl,rfl,rfl⟩;simp (maxSteps:=1000000) [hF,dBo]
 repeat first|refine n1 ?_|refine n2 ?_|((first|refine rg 2 [0,3,5,6] [0,3,5,21] [] ?_|refine rg 4 [0,3,5] [3,5,7] [] ?_|refine nc ?_);simp (maxSteps:=1000000) [hF])
 refine (hfr).go [] (by simp (maxSteps:=1000000) [hF]) ?_;rintro av X κ ⟨j,hj60,hfresh,rfl,rfl,rfl⟩;simp (maxSteps:=1000000) [hF]
 have hnone:=hnoneP j hfresh
 have hnm:isNm (cand j) = true:=cand_nm (by omega)
 have hneF:∀ {x:ByteArray},x = fA∨x = fB∨x = fC∨x = fF→cand j≠x:=fun h=>cand_ne h
 generalize cand j = n at *
 clear hnoneP hfresh hfr hp
 have hlen:=T.lr.len
 have hpos:=hok.pos
 have hLn:=hok.len
 have hsane:=sane_ok
 obtain ⟨hf1,hf2⟩:=fitN_eq q.thing hpos
 have wU:IntKind.u64.wrap (s.L.length:Int) = s.L.length:=by simp only [IntKind.wrap,IntKind.bits,IntKind.signed];simp;omega
 have wI:IntKind.i64.wrap (fitN q.thing s.L.length:Int) = fitN q.thing s.L.length:=IntWalk.i64_in _ (by omega)
 have hnz:¬ s.L.length = 0:=by omega
 generalize fitN q.thing s.L.length = t at *
 have hvt:val s.L t = true:=by simp [val,hf2]
 repeat first|refine n1 ?_
 refine ghostL 1 [.d,.f 0] ?_;simp (maxSteps:=1000000) [hF,St.lift,AV.lift,liftPl,stripP,nodeAV,isNode,dBo,dTs]
 refine ghostL 1 [.d,.f 1] ?_;simp (maxSteps:=1000000) [hF,St.lift,AV.lift,liftPl,stripP,nodeAV,isNode,dBo,dTR]
 refine VS.pick [3,5,7] [0,2,3,4] (by simp [hF]) ?_;simp [hF]
 apply merged
 ·intro key
  repeat first|(((refine dr 5 0 [3,5,7] [3,5,7,8] [] [⟨0,8,16777216,5⟩,⟨1,16777216,33554432,6⟩,⟨2,33554432,67108864,5⟩,⟨0,32,134217728,5⟩,⟨8,134217728,268435456,6⟩,⟨16,268435456,536870912,5⟩,⟨32,536870912,1073741824,5⟩,⟨64,1073741824,2147483648,6⟩,⟨128,2147483648,4294967296,0⟩,⟨256,4294967296,8589934592,5⟩,⟨516,8657043456,17179869184,5⟩,⟨1024,17179869184,34359738368,5⟩,⟨4095,34359738368,256,5⟩] (.take 0 (.take 3 (.take 4 (.take 5 (.take 6 (.take 7 (.fork (.alt 1 (.take 2 (.fork (.alt 8 (.take 9 (.take 10 (.take 11 (.take 12 (.done))))) (.nil)))) (.alt 8 (.take 1 (.take 2 (.take 9 (.take 10 (.take 11 (.take 12 (.done))))))) (.nil)))))))))) (.run [0,3,4,5,6,7] (.both (.run [1,2,8,9,10,11,12] (.done)) (.run [8,1,2,9,10,11,12] (.done)))) ?_;simp only [drs]));simp (maxSteps:=1000000) [hF,dAsk,dJJ,dTR,dR])
  (repeat' with_reducible refine And.intro ?_ ?_)
  all_goals
   refine (rLen_ok r.R).go [(3,[.d,.f 1])] (by simp (maxSteps:=1000000) [hF,dTR,dR,hlen,wU,hf1,wI,hnz]) ?_;rintro av X κ ⟨rfl,rfl,rfl⟩;simp (maxSteps:=1000000) [hF,dTR,dR,hlen,wU,hf1,wI,hnz]
   exact key ()
 obtain ⟨hg1,hg2⟩:=fitN_eq q.n (n:=4) (by omega)
 have hg1':(IntKind.u64.wrap q.n).tmod 4 = (fitN q.n 4:Int):=hg1
 have wG:IntKind.i64.wrap (fitN q.n 4:Int) = fitN q.n 4:=IntWalk.i64_in _ (by omega)
 obtain ⟨old,hold⟩:∃ old,old = nameOf (fitN q.n 4) ⟨#[]⟩:=⟨_,rfl⟩
 have hno:n≠old:=hneF (by rw [hold];exact old_four q.n)
 have hom:isNm old = true:=by rcases (hold ▸ old_four q.n:old = fA∨old = fB∨old = fC∨old = fF) with h | h | h | h <;> (rw [h];decide)
 have hFd:=find_told hvt hom
 repeat first|refine n1 ?_|((refine rg 6 [3,5,7,8] [3,5,7,8,9] [] ?_);simp (maxSteps:=1000000) [hF,dAsk,dJJ,hg1',wG])
 refine (name_ok (fitN q.n 4) ⟨#[]⟩).go [] (by simp (maxSteps:=1000000) [hF,←hold]) ?_;rintro av X κ ⟨rfl,rfl,rfl⟩;simp (maxSteps:=1000000) [hF,←hold]
 repeat first|refine n1 ?_|((refine rg 7 [3,5,7,8,9] [3,5,7,8,9,10,11] [] ?_);simp (maxSteps:=1000000) [hF])
 cases hz:frz s t with
 | true =>
  have hA:=alias_frz hvt hnm hom hz
  have hc:=Alias_ok hok t n old
  rw [hA] at hc
  refine (Find_nil true hok t old).go [(2,[])] (by simp (maxSteps:=1000000) [hF,dTs,dL,dFo,dEnt]) ?_;rintro av X κ ⟨rfl,rfl,rfl⟩;simp (maxSteps:=1000000) [hF,dTs,dL,dFo,dEnt]
  repeat first|refine n1 ?_|((refine rg 8 [3,5,7,8,9,10,11] [3,5,7,8,9,10,11,12] [] ?_);simp (maxSteps:=1000000) [hF])
  refine (hc).go [(2,[])] (by simp (maxSteps:=1000000) [hF,dTs,dL]) ?_;rintro av X κ ⟨rfl,rfl,rfl⟩;simp (maxSteps:=1000000) [hF,dTs,dL]
  repeat first|refine n1 ?_|((first|refine rg 9 [3,5,7,8,9,10,11,12] [3,5,7,8,9,10,11,12,57] [] ?_|refine rg 10 [] [4] [] ?_|refine nc ?_);simp (maxSteps:=1000000) [hF])
  refine (hsane).go [] (by simp (maxSteps:=1000000) [hF]) ?_;rintro av X κ ⟨rfl,rfl,rfl⟩;simp (maxSteps:=1000000) [hF]
  repeat first|refine n1 ?_
  (try refine nr ?_);(repeat first|refine nb_ ?_|refine nl_ ?_);refine endK.o [4] [] [] ?_;simp [hF,retK,covers,mpre]
 | false =>
  cases hf:(findOf s t old []).2 with
  | false =>
   have hA:=alias_non hvt hnm hom hz hf
   have hc:=Alias_ok hok t n old
   rw [hA] at hc
   have hF2:FindOf s t old [] = (Fo.none,3):=by rw [hFd];unfold toldOf;rw [if_pos hf]
   have hfd:=Find_nil true hok t old
   rw [hF2] at hfd
   refine (hfd).go [(2,[])] (by simp (maxSteps:=1000000) [hF,dTs,dL,dFo,dEnt]) ?_;rintro av X κ ⟨rfl,rfl,rfl⟩;simp (maxSteps:=1000000) [hF,dTs,dL,dFo,dEnt]
   repeat first|refine n1 ?_|((refine rg 8 [3,5,7,8,9,10,11] [3,5,7,8,9,10,11,12] [] ?_);simp (maxSteps:=1000000) [hF])
   refine (hc).go [(2,[])] (by simp (maxSteps:=1000000) [hF,dTs,dL]) ?_;rintro av X κ ⟨rfl,rfl,rfl⟩;simp (maxSteps:=1000000) [hF,dTs,dL]
   repeat first|refine n1 ?_|refine n2 ?_|((first|refine rg 9 [3,5,7,8,9,10,11,12] [3,5,7,8,9,10,11,12,57] [] ?_|refine rg 11 [3,5,7,8,9,10,11,12] [3,5,7,8,9,10,11,61] [] ?_|refine rg 13 [3,5,7,8,9,10,11] [3,5,7,8,9,10,63] [] ?_|refine rg 14 [] [4] [] ?_|refine nc ?_);simp (maxSteps:=1000000) [hF])
   refine (hsane).go [] (by simp (maxSteps:=1000000) [hF]) ?_;rintro av X κ ⟨rfl,rfl,rfl⟩;simp (maxSteps:=1000000) [hF]
   repeat first|refine n1 ?_
   (try refine nr ?_);(repeat first|refine nb_ ?_|refine nl_ ?_);refine endK.o [4] [] [] ?_;simp [hF,retK,covers,mpre]
  | true =>
   have hA:=alias_yes hvt hnm hom hz hf
   have hbd:=(findOf_lkp hf).2
   have hc:=Alias_ok hok t n old
   have hok1:=alias_ok' hok t n old
   rw [hA] at hc hok1
   have hF2:FindOf s t old [] = ((findOf s t old []).1,0):=by rw [hFd];unfold toldOf;rw [if_neg (by rw [hf];simp)]
   have hfd:=Find_nil true hok t old
   rw [hF2] at hfd
   clear hA hF2 hFd hf
   generalize (findOf s t old []).1 = f at *
   have hAF:∀ s',Chg (putOf s (t,-1) n f.e) s' old→s'.L = s.L→FindOf s' t n [] = (⟨f.e,t,-1⟩,0):=fun s' h1 h2=>alias_find hok hf2 hbd hno hnone hnm h1 h2
   have hs1L:(putOf s (t,-1) n f.e).L = s.L:=rfl
   generalize putOf s (t,-1) n f.e = s1 at *
   obtain ⟨z,hz3⟩:∃ z,z = bitAnd .i64 q.frm 3:=⟨_,rfl⟩
   refine (hfd).go [(2,[])] (by simp (maxSteps:=1000000) [hF,dTs,dL,dFo,dEnt]) ?_;rintro av X κ ⟨rfl,rfl,rfl⟩;simp (maxSteps:=1000000) [hF,dTs,dL,dFo,dEnt]
   repeat first|refine n1 ?_|((refine rg 8 [3,5,7,8,9,10,11] [3,5,7,8,9,10,11,12] [] ?_);simp (maxSteps:=1000000) [hF])
   refine (hc).go [(2,[])] (by simp (maxSteps:=1000000) [hF,dTs,dL]) ?_;rintro av X κ ⟨rfl,rfl,rfl⟩;simp (maxSteps:=1000000) [hF,dTs,dL]
   by_cases z0:z = 0
   ·have hc2:=Remove_ok hok1 f.th old
    have hF3:=hAF _ (remove_chg s1 f.th old) (by rw [remove_L,hs1L])
    have hok2:=remove_ok' hok1 f.th old
    generalize (removeOf s1 f.th old).1 = s2 at *
    generalize (removeOf s1 f.th old).2 = e2 at *
    have hfd2:=Find_nil true hok2 t n
    rw [hF3] at hfd2
    repeat first|refine n1 ?_|refine n2 ?_|refine n3 ?_|((first|refine rg 9 [3,5,7,8,9,10,11,12] [3,5,7,8,9,10,11,12,57] [] ?_|refine rg 11 [3,5,7,8,9,10,11,12] [3,5,7,8,9,10,11,61] [] ?_|refine rg 13 [3,5,7,8,9,10,11] [3,5,7,8,9,10,63] [] ?_|refine rg 15 [3,5,7,8,9,10] [5,7,8,9,10,67] [] ?_|refine rg 17 [5,7,8,9,10,67] [5,7,8,9,10,67,73] [] ?_|refine rg 18 [5,7,8,9,10] [5,7,8,10] [] ?_|refine nc ?_);simp (maxSteps:=1000000) [hF,←hz3,z0,dFo,dEnt])
    refine (hc2).go [(2,[])] (by simp (maxSteps:=1000000) [hF,dTs,dL]) ?_;rintro av X κ ⟨rfl,rfl,rfl⟩;simp (maxSteps:=1000000) [hF,dTs,dL]
    repeat first|refine n1 ?_|refine n4 ?_|((refine rg 23 [5,7,8,10] [8,10,13,14] [] ?_);simp (maxSteps:=1000000) [hF])
    refine (hfd2).go [(2,[])] (by simp (maxSteps:=1000000) [hF,dTs,dL,dFo,dEnt]) ?_;rintro av X κ ⟨rfl,rfl,rfl⟩;simp (maxSteps:=1000000) [hF,dTs,dL,dFo,dEnt]
    repeat first|refine n1 ?_|((refine rg 24 [8,10,13,14] [4] [(2,106),(9,113),(15,119),(20,124)] ?_);simp (maxSteps:=1000000) [hF,dFo,dEnt])
    refine eqEn ?_
    simp (maxSteps:=1000000) [hF]
    refine (hsane).go [] (by simp (maxSteps:=1000000) [hF]) ?_;rintro av X κ ⟨rfl,rfl,rfl⟩;simp (maxSteps:=1000000) [hF]
    repeat first|refine n1 ?_
    (try refine nr ?_);(repeat first|refine nb_ ?_|refine nl_ ?_);refine endK.o [4] [] [] ?_;simp [hF,retK,covers,mpre]
   ·have hzz0:=z0
    by_cases z1:z = 1
    ·have hc2:=Undefine_ok hok1 t old
     have hF3:=hAF _ (undef_chg s1 t old) (by rw [undef_L,hs1L])
     have hok2:=undef_ok' hok1 t old
     generalize (undefOf s1 t old).1 = s2 at *
     generalize (undefOf s1 t old).2 = e2 at *
     have hfd2:=Find_nil true hok2 t n
     rw [hF3] at hfd2
     repeat first|refine n1 ?_|refine n2 ?_|refine n3 ?_|((first|refine rg 9 [3,5,7,8,9,10,11,12] [3,5,7,8,9,10,11,12,57] [] ?_|refine rg 11 [3,5,7,8,9,10,11,12] [3,5,7,8,9,10,11,61] [] ?_|refine rg 13 [3,5,7,8,9,10,11] [3,5,7,8,9,10,63] [] ?_|refine rg 15 [3,5,7,8,9,10] [5,7,8,9,10,67] [] ?_|refine rg 17 [5,7,8,9,10,67] [5,7,8,9,10,67,73] [] ?_|refine rg 19 [5,7,8,9,10,67] [5,7,8,9,10,67,81] [] ?_|refine rg 20 [5,7,8,9,10] [5,7,8,10] [] ?_|refine nc ?_);simp (maxSteps:=1000000) [hF,←hz3,z0,z1,dFo,dEnt])
     refine (hc2).go [(2,[])] (by simp (maxSteps:=1000000) [hF,dTs,dL]) ?_;rintro av X κ ⟨rfl,rfl,rfl⟩;simp (maxSteps:=1000000) [hF,dTs,dL]
     repeat first|refine n1 ?_|refine n4 ?_|((refine rg 23 [5,7,8,10] [8,10,13,14] [] ?_);simp (maxSteps:=1000000) [hF])
     refine (hfd2).go [(2,[])] (by simp (maxSteps:=1000000) [hF,dTs,dL,dFo,dEnt]) ?_;rintro av X κ ⟨rfl,rfl,rfl⟩;simp (maxSteps:=1000000) [hF,dTs,dL,dFo,dEnt]
     repeat first|refine n1 ?_|((refine rg 24 [8,10,13,14] [4] [(2,106),(9,113),(15,119),(20,124)] ?_);simp (maxSteps:=1000000) [hF,dFo,dEnt])
     refine eqEn ?_
     simp (maxSteps:=1000000) [hF]
     refine (hsane).go [] (by simp (maxSteps:=1000000) [hF]) ?_;rintro av X κ ⟨rfl,rfl,rfl⟩;simp (maxSteps:=1000000) [hF]
     repeat first|refine n1 ?_
     (try refine nr ?_);(repeat first|refine nb_ ?_|refine nl_ ?_);refine endK.o [4] [] [] ?_;simp [hF,retK,covers,mpre]
    ·have hzz1:=z1
     by_cases z2:z = 2
     ·have hc2:=Define_ok hok1 f.th old 999 1
      have hF3:=hAF _ (define_chg s1 f.th old 999 1) (by rw [define_L,hs1L])
      have hok2:=define_ok' hok1 f.th old 999 1
      generalize (defineOf s1 f.th old 999 1).1 = s2 at *
      generalize (defineOf s1 f.th old 999 1).2 = e2 at *
      have hfd2:=Find_nil true hok2 t n
      rw [hF3] at hfd2
      repeat first|refine n1 ?_|refine n2 ?_|refine n3 ?_|((first|refine rg 9 [3,5,7,8,9,10,11,12] [3,5,7,8,9,10,11,12,57] [] ?_|refine rg 11 [3,5,7,8,9,10,11,12] [3,5,7,8,9,10,11,61] [] ?_|refine rg 13 [3,5,7,8,9,10,11] [3,5,7,8,9,10,63] [] ?_|refine rg 15 [3,5,7,8,9,10] [5,7,8,9,10,67] [] ?_|refine rg 17 [5,7,8,9,10,67] [5,7,8,9,10,67,73] [] ?_|refine rg 19 [5,7,8,9,10,67] [5,7,8,9,10,67,81] [] ?_|refine rg 21 [5,7,8,9,10,67] [5,7,8,9,10,88] [] ?_|refine rg 22 [5,7,8,9,10] [5,7,8,10] [] ?_|refine nc ?_);simp (maxSteps:=1000000) [hF,←hz3,z0,z1,z2,dFo,dEnt])
      refine (hc2).go [(2,[])] (by simp (maxSteps:=1000000) [hF,dTs,dL]) ?_;rintro av X κ ⟨rfl,rfl,rfl⟩;simp (maxSteps:=1000000) [hF,dTs,dL]
      repeat first|refine n1 ?_|refine n4 ?_|((refine rg 23 [5,7,8,10] [8,10,13,14] [] ?_);simp (maxSteps:=1000000) [hF])
      refine (hfd2).go [(2,[])] (by simp (maxSteps:=1000000) [hF,dTs,dL,dFo,dEnt]) ?_;rintro av X κ ⟨rfl,rfl,rfl⟩;simp (maxSteps:=1000000) [hF,dTs,dL,dFo,dEnt]
      repeat first|refine n1 ?_|((refine rg 24 [8,10,13,14] [4] [(2,106),(9,113),(15,119),(20,124)] ?_);simp (maxSteps:=1000000) [hF,dFo,dEnt])
      refine eqEn ?_
      simp (maxSteps:=1000000) [hF]
      refine (hsane).go [] (by simp (maxSteps:=1000000) [hF]) ?_;rintro av X κ ⟨rfl,rfl,rfl⟩;simp (maxSteps:=1000000) [hF]
      repeat first|refine n1 ?_
      (try refine nr ?_);(repeat first|refine nb_ ?_|refine nl_ ?_);refine endK.o [4] [] [] ?_;simp [hF,retK,covers,mpre]
     ·have hzz2:=z2
      have hc2:=Show_ok hok1 t old 2
      have hF3:=hAF _ (show_chg s1 t old 2) (by rw [show_L,hs1L])
      have hok2:=show_ok' hok1 t old 2
      generalize (showOf s1 t old 2).1 = s2 at *
      generalize (showOf s1 t old 2).2 = e2 at *
      have hfd2:=Find_nil true hok2 t n
      rw [hF3] at hfd2
      repeat first|refine n1 ?_|refine n2 ?_|refine n3 ?_|((first|refine rg 9 [3,5,7,8,9,10,11,12] [3,5,7,8,9,10,11,12,57] [] ?_|refine rg 11 [3,5,7,8,9,10,11,12] [3,5,7,8,9,10,11,61] [] ?_|refine rg 13 [3,5,7,8,9,10,11] [3,5,7,8,9,10,63] [] ?_|refine rg 15 [3,5,7,8,9,10] [5,7,8,9,10,67] [] ?_|refine rg 16 [5,7,8,9,10] [5,7,8,10] [] ?_|refine rg 17 [5,7,8,9,10,67] [5,7,8,9,10,67,73] [] ?_|refine rg 19 [5,7,8,9,10,67] [5,7,8,9,10,67,81] [] ?_|refine rg 21 [5,7,8,9,10,67] [5,7,8,9,10,88] [] ?_|refine nc ?_);simp (maxSteps:=1000000) [hF,←hz3,z0,z1,z2,dFo,dEnt])
      refine (hc2).go [(2,[])] (by simp (maxSteps:=1000000) [hF,dTs,dL]) ?_;rintro av X κ ⟨rfl,rfl,rfl⟩;simp (maxSteps:=1000000) [hF,dTs,dL]
      repeat first|refine n1 ?_|refine n4 ?_|((refine rg 23 [5,7,8,10] [8,10,13,14] [] ?_);simp (maxSteps:=1000000) [hF])
      refine (hfd2).go [(2,[])] (by simp (maxSteps:=1000000) [hF,dTs,dL,dFo,dEnt]) ?_;rintro av X κ ⟨rfl,rfl,rfl⟩;simp (maxSteps:=1000000) [hF,dTs,dL,dFo,dEnt]
      repeat first|refine n1 ?_|((refine rg 24 [8,10,13,14] [4] [(2,106),(9,113),(15,119),(20,124)] ?_);simp (maxSteps:=1000000) [hF,dFo,dEnt])
      refine eqEn ?_
      simp (maxSteps:=1000000) [hF]
      refine (hsane).go [] (by simp (maxSteps:=1000000) [hF]) ?_;rintro av X κ ⟨rfl,rfl,rfl⟩;simp (maxSteps:=1000000) [hF]
      repeat first|refine n1 ?_
      (try refine nr ?_);(repeat first|refine nb_ ?_|refine nl_ ?_);refine endK.o [4] [] [] ?_;simp [hF,retK,covers,mpre]
end Go.Proofs.YtbhigdljojlhnaaGreat

/- The arguments of the laws: a question. -/
namespace Go.Proofs.YtbhigdljojlhnaaGreat
set_option linter.all false
open Go.Vc Go.Proofs Go
set_option maxRecDepth 100000
theorem erase_sl {g:G} {z:Nat} {d:D} (h:g.erase = .sl false () z d):∃ v s,g = .sl false v z s∧s.erase = d:=by
 cases g <;> simp only [T.erase,reduceCtorEq] at h
 simp only [T.sl.injEq,true_and] at h
 obtain ⟨rfl,rfl,h⟩:=h
 exact ⟨_,_,rfl,h⟩
abbrev dAskS (q:MAsk):D:=.agg (.cons (.val (.int .i64 q.thing)) (.cons (.val (.int .i64 q.n)) (.cons (.val (.int .i64 q.at_)) (.cons (.val (.int .i64 q.md)) (.cons (.val (.int .i64 q.frm)) (.cons (.val (.int .i64 q.vis)) (.cons (.val (.string q.name)) (.cons (.val (.bool q.self)) (.cons (.sl false () 1 (dInts q.act)) .nil)))))))))
theorem reads_ask:Reads Tryz.prog 58 9 fun d=>∃ q:MAsk,q.act.length≤2 ^ 63 - 1∧d = dAskS q:=by
 have h:=reads_struct (gs:=[(1,isI),(1,isI),(1,isI),(1,isI),(1,isI),(1,isI),(1,fun d=>∃ n,d = .val (.string n)),(1,fun d=>∃ b,d = .val (.bool b)),(1,fun d=>∃ l:List D,(∀ x∈l,isI x)∧l.length≤2 ^ 63 - 1∧d = .sl false () 1 (sq l))]) Tryz.underlying58
  ⟨reads_int Tryz.underlying3,by kernel_rfl,rfl,reads_int Tryz.underlying3,by kernel_rfl,rfl,reads_int Tryz.underlying3,by kernel_rfl,rfl,reads_int Tryz.underlying3,by kernel_rfl,rfl,reads_int Tryz.underlying3,by kernel_rfl,rfl,reads_int Tryz.underlying3,by kernel_rfl,rfl,
   reads_str Tryz.underlying9,by kernel_rfl,rfl,reads_bool Tryz.underlying4,by kernel_rfl,rfl,reads_slice Tryz.underlying33 (reads_int Tryz.underlying3) (by kernel_rfl) (by omega),by kernel_rfl,rfl,trivial⟩ (by kernel_rfl)
 refine fun H enc w fuel cs x hx=>?_
 obtain ⟨g,h1,h2,h3,h4,s,h5,a1,t1,rfl,⟨n1,rfl⟩,a2,t2,rfl,⟨n2,rfl⟩,a3,t3,rfl,⟨n3,rfl⟩,a4,t4,rfl,⟨n4,rfl⟩,a5,t5,rfl,⟨n5,rfl⟩,a6,t6,rfl,⟨n6,rfl⟩,a7,t7,rfl,⟨s7,rfl⟩,a8,t8,rfl,⟨b8,rfl⟩,a9,t9,rfl,⟨l,k1,k2,rfl⟩,rfl⟩:=h H enc w fuel cs x hx
 obtain ⟨ys,rfl⟩:=map_of k1
 exact ⟨g,h1,h2,h3,h4,⟨n1,n2,n3,n4,n5,n6,s7,b8,ys⟩,by simpa using k2,h5⟩
section
variable {H:Type} {enc:TypeId×Value→H} {w:World} {r:Go.Reach} {b0:Nat} {v:Value} {d:DataW H} {ps:List MemPlace}
theorem ask_of (hv:Value.okWide Tryz.prog w r b0 58 v) (h:DataW.Trod enc Tryz.prog w 0 (fun _=>true) true 58 v d ps) :
  ∃ q:MAsk,q.act.length≤2 ^ 63 - 1∧Rl w.heap (allB w) [] (avAsk q) true [v]:=by
 obtain ⟨fuel,h⟩:=h
 obtain ⟨cs,rfl,_⟩:∃ cs,v = .agg cs∧True:=by
  unfold Value.okWide at hv
  rw [Tryz.underlying58] at hv
  obtain ⟨cs,h1,_⟩:=hv
  exact ⟨cs,h1,trivial⟩
 obtain ⟨g,h1,h2,h3,h4,q,hq,h5⟩:=reads_ask H enc w fuel _ _ h
 obtain ⟨s,rfl,h6⟩:=erase_agg h5
 obtain ⟨a1,t1,rfl,k1,q1⟩:=erase_cons h6
 obtain ⟨a2,t2,rfl,k2,q2⟩:=erase_cons q1
 obtain ⟨a3,t3,rfl,k3,q3⟩:=erase_cons q2
 obtain ⟨a4,t4,rfl,k4,q4⟩:=erase_cons q3
 obtain ⟨a5,t5,rfl,k5,q5⟩:=erase_cons q4
 obtain ⟨a6,t6,rfl,k6,q6⟩:=erase_cons q5
 obtain ⟨a7,t7,rfl,k7,q7⟩:=erase_cons q6
 obtain ⟨a8,t8,rfl,k8,q8⟩:=erase_cons q7
 obtain ⟨a9,t9,rfl,k9,q9⟩:=erase_cons q8
 obtain rfl:=erase_val k1
 obtain rfl:=erase_val k2
 obtain rfl:=erase_val k3
 obtain rfl:=erase_val k4
 obtain rfl:=erase_val k5
 obtain rfl:=erase_val k6
 obtain rfl:=erase_val k7
 obtain rfl:=erase_val k8
 obtain ⟨v9,s9,rfl,hs9⟩:=erase_sl k9
 obtain rfl:=erase_nil q9
 have h7:(Value.agg cs).cells.toList = cs.toList:=rfl
 rw [h7] at h3
 have hl:T.Holds w.heap (allB w) (.sl false v9 1 s9):=by
  simp only [T.Holds] at h1 ⊢
  exact h1.2.2.2.2.2.2.2.2.1
 refine ⟨q,hq,cs.toList,by simp,[.int .i64 q.thing],_,?_,⟨rfl,rfl⟩,[.int .i64 q.n],_,rfl,⟨rfl,rfl⟩,[.int .i64 q.at_],_,rfl,⟨rfl,rfl⟩,[.int .i64 q.md],_,rfl,⟨rfl,rfl⟩,[.int .i64 q.frm],_,rfl,⟨rfl,rfl⟩,[.int .i64 q.vis],_,rfl,⟨rfl,rfl⟩,
  [.string q.name],_,rfl,⟨rfl,rfl⟩,[.bool q.self],_,rfl,⟨rfl,rfl⟩,[v9],_,rfl,⟨v9,rfl,s9,hs9,hl,fun h=>by cases h⟩,rfl⟩
 rw [←h3];rfl
end
end Go.Proofs.YtbhigdljojlhnaaGreat

/- Proved: MethodAliases returns true for every input, and its arguments read behind the call as before. No condition. -/
namespace Go.Proofs.YtbhigdljojlhnaaGreat.methodAliases
set_option linter.all false
open Go.Vc Go.ChangeShapes Go.WideShapes Go.ChangeAt Go.RowKit
set_option linter.unusedVariables false
theorem own:ownKnob Tryz.prog.godebug = none:=by kernel_rfl
theorem laid:laidOutB Tryz.prog = true:=by kernel_rfl
set_option maxRecDepth 100000 in
theorem lifted (os:Os) (started:os.Started) (H:Type) (enc:TypeId×Value→H) :
  ReturnsInHanded {} Tryz.checked os 5 .any (Rows.methodAliasesSpec.pre6 enc Tryz.prog Tryz.f5 Rows.methodAliasesRow.domain false) (Rows.methodAliasesSpec.post enc Tryz.prog Tryz.f5 false true false false):=by
 refine returnsInHanded_of_change (C:=Tryz.checked) own started (by kernel_rfl) Tryz.func5
  (ChangeSpec.witness6 (enc:=enc) (C:=Tryz.checked) false ⟨#[],#[.slice none 0 0,.agg #[.int .i64 0,.int .i64 0,.int .i64 0,.int .i64 0,.int .i64 0,.int .i64 0,.string ⟨#[]⟩,.bool false,.slice none 0 0]],[]⟩ 8 (by kernel_rfl) (by kernel_rfl) (by kernel_rfl) (by kernel_rfl)) ?_
 intro W base args ds gs before hval0 hW hcnd _
 have hval:∀ (j:Nat) t v,Tryz.f5.params[j]? = some t→args[j]? = some v→Value.okWide Tryz.prog W .any base t v:=hval0
 have hW':=hW
 obtain ⟨p,q,hA0,hV,rfl,hfz,hnd⟩:=hW
 have hA:DataW.TrodAll enc Tryz.prog W 0 (fun _=>true) true Tryz.f5.params.toList args.toList ds p:=hA0
 rw [Tryz.params5] at hA hval
 obtain ⟨v0,vs0,d0,ds0,p0,q0,hargs0,rfl,rfl,h0,r0⟩:=trodAll_cons hA
 obtain ⟨v1,vs1,d1,ds1,p1,q1,hargs1,rfl,rfl,h1,r1⟩:=trodAll_cons r0
 obtain ⟨rfl,rfl,rfl⟩:=trodAll_nil r1
 subst hargs1
 obtain rfl:args = #[v0,v1]:=by cases args;simp_all
 obtain ⟨rfl,rfl⟩:=trodVars_none hV
 obtain ⟨a0,hlen0,hr0⟩:=deeds_of (hval 0 22 v0 rfl rfl) h0
 obtain ⟨a1,hlen1,hr1⟩:=ask_of (hval 1 58 v1 rfl rfl) h1
 clear hA0 hval0
 have hwalk:Calls Tryz.prog 5 #[v0,v1] W fun e w'=>e = .returned (.bool true)∧Below W.heap.size W w' :=
  Meets.law ((Meets.mono (methodAliases_ok a0 false hlen0 a1 hlen1) fun _ _ _ h=>h.1)) (vs:=[v0,v1]) (I:=allB W) (fun _ h=>h) ⟨v0,_,rfl,hr0,⟨v1,_,rfl,hr1,rfl⟩⟩
 refine hwalk.mono fun e W' ⟨he,bel⟩=>?_
 subst he
 exact ⟨_,rfl,_,_,_,[],_,[],hW',trodAll_mk1 (shut_bool Tryz.underlying4 _),(trodAll_cons_mk (Below.trod laid (by kernel_rfl) (of_decide_eq_true (by kernel_rfl)) h0 bel fun x hx=>hW'.lt x (by simp [hx])) (trodAll_cons_mk (Below.trod laid (by kernel_rfl) (of_decide_eq_true (by kernel_rfl)) h1 bel fun x hx=>hW'.lt x (by simp [hx])) trodAll_mk0)),rfl,bel.frame _,fun h=>by cases h⟩
theorem over:Rows.methodAliasesRow.holds Tryz.pinned (OpenSpec.ofChange Rows.methodAliasesSpec) :=
 OpenClaim.holds_of_wide 5 Tryz.f5 rfl rfl rfl rfl rfl rfl rfl ⟨rfl,rfl,rfl,rfl,rfl⟩ rfl rfl rfl rfl rfl (by kernel_rfl) Tryz.func5 (by kernel_rfl)
  (of_decide_eq_true (by kernel_rfl)) (by unfold Func.isWrapper;first | (rw [if_pos (by decide +kernel)];kernel_rfl) | (rw [if_neg (by decide +kernel)];exact ⟨rfl,rfl⟩))
  (fun os started H enc _=>lifted os started H enc)
theorem proved:Rows.MethodAliasesSaid :=
 over
end Go.Proofs.YtbhigdljojlhnaaGreat.methodAliases
