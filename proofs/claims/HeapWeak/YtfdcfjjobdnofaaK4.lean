/- What runs in a round of a loop over a function. -/
import Derived.Test.YtfdcfjjobdnofaaK3
import Derived.RangeFuncCalls
import Derived.TacticsIn
import Derived.RangeFuncSeq
import Derived.RangeFuncOwn
import Derived.KernelRfl
namespace Go.Vc
set_option linter.all false
open T (hdr blk)

section
variable {lo n : Nat} {P : Program} {o : Oper} {a : Act} {w w' : World} {next : Act → World → Prop} {Q : Exit → Act → World → Prop}
theorem not_defer {x : Next} (h : (execOp a.eval o).run P w = .ok x w') (hx : ∀ d, x ≠ .defer d) : ∀ c, o.op ≠ .defer c := fun c e => by
  obtain ⟨dst, op, ty, pos, after, guard⟩ := o
  simp only at e
  subst e
  simp only [execOp, Sem.run_bind, Sem.run_pure] at h
  cases hr : (resolve a.eval c ty).run P w with
  | ok d w2 => rw [hr] at h; simp only [Result.andThen_ok, Sem.run_pure, Result.ok.injEq] at h; exact hx _ h.1.symm
  | halt => rw [hr] at h; cases h
theorem in_value {v : Value} (h : (execOp a.eval o).run P w = .ok (.value v) w') (hn : next (a.put o.dst v) w') : o.wpIn (Fence.wide.inRound lo) n P a w next Q :=
  ⟨fun _ _ => trivial, by
    rw [show (Fence.wide.inRound lo).round = some lo from rfl, Oper.semAt_some lo _ o (not_defer h fun d => by simp), h]
    exact hn⟩
theorem in_skip (h : (execOp a.eval o).run P w = .ok .skip w') (hn : next (a.put o.dst undef) w') : o.wpIn (Fence.wide.inRound lo) n P a w next Q :=
  ⟨fun _ _ => trivial, by
    rw [show (Fence.wide.inRound lo).round = some lo from rfl, Oper.semAt_some lo _ o (not_defer h fun d => by simp), h]
    exact hn⟩
theorem in_enter {f : FuncId} {args : Array Value} (h : (execOp a.eval o).run P w = .ok (.enter f args) w') (hn : Calls P f args w' fun
    | .returned v, w'' => next (a.put o.dst v) w''
    | .panicked chain, w'' => Q (.panic chain) a w''
    | .outgrown, _ => LetsOut Q) : o.wpIn (Fence.wide.inRound lo) n P a w next Q :=
  ⟨fun _ _ => trivial, by
    rw [show (Fence.wide.inRound lo).round = some lo from rfl, Oper.semAt_some lo _ o (not_defer h fun d => by simp), h, Oper.uponIn_enter]
    exact ⟨fun h => by simp [Fence.wide] at h, CallsIn.inRound lo (callsIn_wide.2 hn)⟩⟩
end

/-- An operation: it runs to its end, and the state behind it is as said. -/
theorem op_okIn {lo n : Nat} {c : Cx} {τ : Tab} (hτ : Tab.Ok c.P τ) {st : St} {a : Act} {w : World} (h : Rel c st a w) {o : Oper} {K : AV → St → Prop} (hv : opVc c τ o st K) {next : Act → World → Prop} {Q : Exit → Act → World → Prop}
    (hn : ∀ av v st' w', K av st' → RelR c st' av v a w' → (extOp o.op = true ∨ callStill τ st o.op = true → Ext w w') → next (a.put o.dst v) w') : o.wpIn (Fence.wide.inRound lo) n c.P a w next Q := by
  obtain ⟨hd, hs, I, F, hi, he, hp⟩ := id h
  have value : ∀ av v st', K av st' → RelR c st' av v a w → (execOp a.eval o).run c.P w = .ok (.value v) w → o.wpIn (Fence.wide.inRound lo) n c.P a w next Q := fun av v st' h1 h2 h3 => by
    refine in_value h3 (hn av v st' w h1 h2 fun _ _ _ => rfl)
  have eff : effVc τ c.F0.length o.op st K → o.wpIn (Fence.wide.inRound lo) n c.P a w next Q := fun hv => by
    obtain ⟨av, st', v, w', n, h1, h2, h3, h4, h5⟩ := eff_ok hτ h hv
    have h5' : extOp o.op = true ∨ callStill τ st o.op = true → Ext w w' := fun h => h.elim h5 fun h => by rw [eff_still hv] at h; cases h
    rcases h3 with rfl | ⟨rfl, rfl⟩
    · exact in_value h2 (hn av v st' w' h1 h4 h5')
    · exact in_skip h2 (hn av undef st' w' h1 h4 h5')
  have neww : newVc τ c.F0.length o.op st K → o.wpIn (Fence.wide.inRound lo) n c.P a w next Q := fun hv => by
    obtain ⟨av, st', v, w', n, h1, h2, h3, h4, h5⟩ := new_ok hτ h hv
    have h5' : extOp o.op = true ∨ callStill τ st o.op = true → Ext w w' := fun h => h.elim h5 fun h => by rw [new_still hv] at h; cases h
    rcases h3 with rfl | ⟨rfl, rfl⟩
    · exact in_value h2 (hn av v st' w' h1 h4 h5')
    · exact in_skip h2 (hn av undef st' w' h1 h4 h5')
  have pure : ∀ {K' : AV → Prop}, (∀ av, K' av → K av st) → pureVc τ o.op o.type st K' → o.wpIn (Fence.wide.inRound lo) n c.P a w next Q := fun hk hv => by
    obtain ⟨av, v, h1, h2, h3⟩ := pure_ok hτ hi he hv
    exact value av v st (hk _ h1) ⟨hd, hs, I, F, hi, he, hp, h2⟩ (h3 w)
  unfold opVc at hv
  split at hv
  · rename_i t x ho
    obtain ⟨av, v, h1, h2, h3⟩ := load_ok hτ hi he hp (o := o) (K := fun av => K av st) (by rw [ho]; exact hv)
    exact value av v st h1 ⟨hd, hs, I, F, hi, he, hp, h2⟩ (h3 w fun _ _ => rfl)
  · rename_i ho; exact eff (by rw [ho]; exact hv)
  · rename_i ho; exact eff (by rw [ho]; exact hv)
  · rename_i ho; exact eff (by rw [ho]; exact hv)
  · rename_i ho; exact eff (by rw [ho]; exact hv)
  · rename_i t parts ho
    obtain ⟨av, v, h1, h2, h3⟩ := build_ok hτ he hv
    refine value av v st h1 ⟨hd, hs, I, F, hi, he, hp, h2⟩ ?_
    obtain ⟨dst, op, ty, pos, after, guard⟩ := o
    simp only at ho; subst ho
    simp [execOp, h3]
  · rename_i t x lo hi' mx ho
    obtain ⟨hm, hv⟩ := hv
    have opt : ∀ (x : Option Operand), RlO w.heap I F (x.map st.ev) (x.map a.eval) := fun x => by
      cases x with
      | none => trivial
      | some x => exact he.ev x
    obtain ⟨av, v, h1, h2, h3⟩ := slice_ok hτ hi (he.evT (τ := τ) t x) (opt lo) (opt hi') (opt mx) (by simpa using hm) hv
    refine value av v st h1 ⟨hd, hs, I, F, hi, he, hp, h2⟩ ?_
    obtain ⟨dst, op, ty, pos, after, guard⟩ := o
    simp only at ho; subst ho
    simp [execOp, h3]
  · rename_i cc ho
    split at hv
    · split at hv
      · exact neww (by rw [ho]; exact hv)
      · exact eff (by rw [ho]; exact hv)
    · exact neww (by rw [ho]; exact hv)
    · rename_i f hcal
      split at hv
      case h_2 => exact hv.elim
      rename_i g s hf
      obtain ⟨hsq, hv⟩ := hv
      have hfv := he.ev f
      rw [hf] at hfv
      obtain ⟨l, h1, h2⟩ := hfv
      have hargs := argsOf_app (τ := τ) he h2 cc.args.toList cc.argTypes.toList
      obtain ⟨hb, hcalls⟩ := hv a w _ ⟨hd, hs, I, F, hi, he, hp, hargs⟩
      injection h1 with h1 _
      obtain ⟨dst, op, ty, pos, after, guard⟩ := o
      simp only at ho; subst ho
      have hrun : (execOp a.eval ⟨dst, .call cc, ty, pos, after, guard⟩).run c.P w = .ok (.enter g (cc.args.toList.map a.eval ++ l).toArray) w := by
        have harr : cc.args.map a.eval ++ l.toArray = (cc.args.toList.map a.eval ++ l).toArray := by apply Array.ext'; simp
        simp [execOp, resolve, hcal, h1, Deferred.ofValue, invoke, run_callFunc hb, harr]
      refine in_enter hrun (Calls.mono hcalls fun e w' he' => ?_)
      obtain ⟨v, av, st', rfl, k1, k2, k3⟩ := he'
      refine hn av v st' w' k1 k2 fun h => ?_
      rcases h with h | h
      · simp [extOp, hcal] at h
      · exact k3 (by simpa [callStill, hcal, hf, fnStill] using h)
    · exact pure (K' := fun av => K av st) (fun _ h => h) (by rw [ho]; exact hv)
  · rename_i op t x y ty ho
    split at hv
    · rename_i s u hx hy
      obtain ⟨hop, b, ⟨h1, h2⟩, h3⟩ := hv
      have hxv := he.ev x
      have hyv := he.ev y
      rw [hx] at hxv
      rw [hy] at hyv
      obtain ⟨xs, e1, r1⟩ := hxv
      obtain ⟨ys, e2, r2⟩ := hyv
      injection e1 with e1 _
      injection e2 with e2 _
      have hr := h2 w.heap I F xs ys w r1 r2
      obtain ⟨dst, op', ty', pos, after, guard⟩ := o
      simp only at ho; subst ho
      rcases hop with rfl | rfl
      · refine value _ (.bool b) st h3 ⟨hd, hs, I, F, hi, he, hp, rfl, rfl⟩ ?_
        simp [execOp, eqGuard, h1, binOp, e1, e2, hr]
      · refine value _ (.bool !b) st h3 ⟨hd, hs, I, F, hi, he, hp, rfl, rfl⟩ ?_
        simp [execOp, eqGuard, h1, binOp, e1, e2, hr]
    · exact pure (K' := fun av => K av st) (fun _ h => h) (by rw [ho]; exact hv)
  · rename_i ho; exact neww (by rw [ho]; exact hv)
  · rename_i ho; exact neww (by rw [ho]; exact hv)
  · rename_i ho; exact neww (by rw [ho]; exact hv)
  · rename_i ho; exact neww (by rw [ho]; exact hv)
  · exact pure (K' := fun av => K av st) (fun _ h => h) hv


/-- Does one of the operations write the slot? -/
def wr (ops : List Oper) (t : Nat) : Bool := ops.any fun o => o.dst == some t
theorem put_same {a : Act} {d : Option Tmp} {v : Value} {t : Nat} (h : d ≠ some t) : (a.put d v).tmps.getD t undef = a.tmps.getD t undef := by
  cases d with
  | none => rfl
  | some d =>
    have hne : d ≠ t := fun e => h (by rw [e])
    simp [Act.put, Array.getD_eq_getD_getElem?, Array.getElem?_setIfInBounds_ne hne]
theorem ops_okIn {lo n : Nat} {c : Cx} {τ : Tab} (hτ : Tab.Ok c.P τ) {all : List Oper} {gs : List (Nat × Tmp)} (hgs : gsOk all gs = true) {Q : Exit → Act → World → Prop} {K : St → Prop} {a0 : Act}
    (hQ : ∀ st a w, K st → Rel c st a w → (a.defers = a0.defers ∧ ∀ t, wr all t = false → a.tmps.getD t undef = a0.tmps.getD t undef) → Q .normal a w) :
    ∀ (l : List Oper) (i : Nat) (st : St) (a : Act) (w : World), dstsOk c.nt l = true → (∀ o ∈ l, ∀ d, o.dst = some d → wr all d = true) → (a.defers = a0.defers ∧ ∀ t, wr all t = false → a.tmps.getD t undef = a0.tmps.getD t undef) →
      Rel c st a w → vcOps c τ gs l i st K → wpListIn (Fence.wide.inRound lo) n c.P all.toArray Q l a w
  | [], _, st, a, w, _, _, hsame, h, hv => hQ st a w hv h hsame
  | o :: r, i, st, a, w, hl, hsub, hsame, h, hv => by
    simp only [dstsOk, List.all_cons, Bool.and_eq_true] at hl
    have hdst : ∀ t, o.dst = some t → t < c.nt := fun t ht => by
      have := hl.1; rw [ht] at this; exact Nat.le_of_ble_eq_true this
    have hput : ∀ v, (a.put o.dst v).defers = a0.defers ∧ ∀ t, wr all t = false → (a.put o.dst v).tmps.getD t undef = a0.tmps.getD t undef := fun v => ⟨by rw [← hsame.1]; cases o.dst <;> rfl, fun t ht => by
      rw [put_same fun e => by rw [hsub o List.mem_cons_self t e] at ht; cases ht]
      exact hsame.2 t ht⟩
    have hsub' : ∀ o ∈ r, ∀ d, o.dst = some d → wr all d = true := fun o ho => hsub o (List.mem_cons_of_mem _ ho)
    unfold vcOps at hv
    unfold wpListIn
    split at hv
    · rename_i hg
      rw [if_pos (guardOf_ok hgs h hg)]
      refine op_okIn hτ h hv fun av v st' w' h1 h2 _ => ?_
      obtain ⟨st'', h3, h4⟩ := put_ok h1 h2 hdst
      exact ops_okIn hτ hgs hQ r (i + 1) st'' _ w' hl.2 hsub' (hput v) h4 h3
    · rename_i hg
      rw [guardOf_ok hgs h hg]
      simp only [Bool.false_eq_true, if_false]
      obtain ⟨hd, hs, I, F, hi, he, hp⟩ := h
      exact ⟨fun _ _ => trivial, ops_okIn hτ hgs hQ r (i + 1) _ _ w hl.2 hsub' (hput undef) (RelR.put (av := .tup .nil) (v := undef) ⟨hd, hs, I, F, hi, he, hp, [], rfl, rfl⟩ hdst) hv⟩
    · exact hv.elim

theorem region_in {lo n : Nat} {c : Cx} {τ : Tab} (hτ : Tab.Ok c.P τ) {id : Nat} {ops : List Oper} {K : St → Prop} {st : St} (gs : List (Nat × Tmp)) (hd : regOk c.nt ops gs = true)
    (h : vcOps c τ gs ops 0 st K) {a : Act} {w : World} (hr : Rel c st a w) :
    (Code.region id ops.toArray false).wpIn (Fence.wide.inRound lo) n c.P (fun e a' w' => e = .normal ∧ ∃ st', K st' ∧ Rel c st' a' w' ∧ a'.defers = a.defers ∧ ∀ t, wr ops t = false → a'.tmps.getD t undef = a.tmps.getD t undef) a w := by
  simp only [regOk, Bool.and_eq_true] at hd
  refine wpIn_region_list ?_
  have := ops_okIn (lo := lo) (n := n) (a0 := a) (Q := fun e a' w' => e = .normal ∧ ∃ st', K st' ∧ Rel c st' a' w' ∧ a'.defers = a.defers ∧ ∀ t, wr ops t = false → a'.tmps.getD t undef = a.tmps.getD t undef) hτ hd.2
    (fun st' a' w' h1 h2 h3 => ⟨rfl, st', h1, h2, h3⟩) ops 0 st a w hd.1 (fun o ho d e => List.any_eq_true.2 ⟨o, ho, by simp [e]⟩) ⟨rfl, fun _ _ => rfl⟩ hr h
  simpa using this
end Go.Vc

/- A loop over a function. -/
namespace Go.Vc
set_option linter.all false
open T (hdr blk)

/-- What an iterator does: 'N' rounds, the j-th with the values 'encs j', where in all of them memory reads as 'Rd' says. -/
def IterC (P : Program) (gf : FuncId) (lb : Array Value) (N : Nat) (encs : Nat → Array Value) (Rd : World → Prop) : Prop :=
  ∀ (n : Nat), 1 ≤ n → ∀ (lo : Nat) (J : Nat → World → Prop), (∀ j W, J j W → j < N → YieldAt Fence.wide (n - 1) P lo (encs j) W fun e W' => e = .returned (.bool true) ∧ J (j + 1) W') →
    (∀ j W, J j W → Rd W) → ∀ W, J 0 W → CallsIn Fence.wide n P gf (#[.func (.yield lo) #[] #[]] ++ lb) W fun e W' => (∃ v, e = .returned v) ∧ J N W'

/-- Code in a round. -/
def VI (c : Cx) (code : Code) (K : St → Prop) (st : St) : Prop :=
  ∀ (a : Act) (w : World) (lo n : Nat), Rel c st a w → code.wpIn (Fence.wide.inRound lo) n c.P (fun e a' w' => e = .normal ∧ (∃ st', K st' ∧ Rel c st' a' w') ∧ a'.defers = a.defers) a w
theorem VI.region {c : Cx} {τ : Tab} (hτ : Tab.Ok c.P τ) {id : Nat} {ops : List Oper} {K : St → Prop} {st : St} (gs : List (Nat × Tmp)) (hd : regOk c.nt ops gs = true) (h : vcOps c τ gs ops 0 st K) : VI c (.region id ops.toArray false) K st :=
  fun a w lo n hr => wpIn_mono (region_in hτ gs hd h hr) fun _ _ _ ⟨h1, st', h2, h3, h4, _⟩ => ⟨h1, ⟨st', h2, h3⟩, h4⟩
theorem VI.ghost {c : Cx} {code : Code} {K : St → Prop} {st st' : St} (hg : ∀ a w, Rel c st a w → Rel c st' a w) (h : VI c code K st') : VI c code K st := fun a w lo n hr => h a w lo n (hg a w hr)
theorem VI.mono {c : Cx} {code : Code} {K K' : St → Prop} {st : St} (h : VI c code K st) (hk : ∀ st, K st → K' st) : VI c code K' st :=
  fun a w lo n hr => wpIn_mono (h a w lo n hr) fun _ _ _ ⟨h1, ⟨st', h2, h3⟩, h4⟩ => ⟨h1, ⟨st', hk _ h2, h3⟩, h4⟩
/-- The same, where what is known is coarsened behind it. -/
theorem VI.mono' {c : Cx} {code : Code} {K K' : St → Prop} {st : St} (h : VI c code K st) (hk : ∀ st a w, K st → Rel c st a w → ∃ st', K' st' ∧ Rel c st' a w) : VI c code K' st :=
  fun a w lo n hr => wpIn_mono (h a w lo n hr) fun _ _ _ ⟨h1, ⟨st', h2, h3⟩, h4⟩ => ⟨h1, hk _ _ _ h2 h3, h4⟩

/-- Everything that is known, from here on. -/
theorem Inv.rebase {c : Cx} {X : List D} {κ : List (Nat × Path)} {w : World} {I : Nat → Prop} {F : List G} (hi : Inv c X κ w I F) (nt : Nat) : Inv ⟨c.P, nt, w, I, F⟩ X [] w I F :=
  ⟨hi.erase, hi.holds, hi.nodup, hi.apart, hi.lt, hi.ilt, rfl, rfl, rfl, Nat.le_refl _, fun _ _ _ => rfl, fun _ h _ => h, fun _ h => h, fun _ h => .inl h,
    fun k g0 h => ⟨g0, h, rfl, fun _ _ => rfl, fun _ _ => rfl, fun _ _ h _ => h⟩⟩
theorem Stp.of_inv {P : Program} {nt nb : Nat} {X' : List D} {κ' : List (Nat × Path)} {w w' : World} {I I' : Nat → Prop} {F F' : List G} (hc : Inv ⟨P, nt, w, I, F⟩ X' κ' w' I' F') : Stp w w' I I' F F' κ' nb where
  holds := hc.holds
  nodup := hc.nodup
  apart := hc.apart
  mine := fun b hb => by
    rcases Nat.lt_or_ge b w.heap.size with h | h
    · exact .inl (hc.fresh b hb h)
    · exact .inr h
  lt := hc.lt
  ilt := hc.ilt
  heap := hc.frame
  size := hc.size
  os := hc.os
  tape := hc.tape
  output := hc.output
  imono := hc.imono
  inew := fun b hb => by
    rcases hc.inew b hb with h | h | h
    · exact .inl h
    · exact .inr (.inr h)
    · exact .inr (.inl h)
  keep := fun k g hg => by
    obtain ⟨g', h1, h2, h3, h4, h5⟩ := hc.base k g hg
    exact ⟨g', h1, fun _ => h2, h3, h4, h5⟩

/-- All that is borrowed and owned stays, when book-keeping turns. -/
theorem Inv.shut {c : Cx} {X : List D} {κ : List (Nat × Path)} {w w' : World} {I : Nat → Prop} {F : List G} (hil : ∀ b, c.I0 b → b < c.w0.heap.size) (hi : Inv c X κ w I F) {Ds : List Nat}
    (hD : ∀ D ∈ Ds, c.w0.heap.size ≤ D ∧ ∃ o, w.heap[D]? = some o ∧ book o) (s : Shut Ds w w') : ∃ I', Inv c X κ w' I' F ∧ ∀ {av m vs}, Rl w.heap I F av m vs → Rl w'.heap I' F av m vs := by
  have hown : ∀ b ∈ own F, b ∉ Ds := fun b hb hm => by obtain ⟨_, o, h1, h2⟩ := hD b hm; exact own_not_book hi.holds h1 h2 hb
  have hlow : ∀ b, b < c.w0.heap.size → b ∉ Ds := fun b hb hm => by have := (hD b hm).1; omega
  have hlive : ∀ b, live w.heap b → b ∉ Ds := fun b hb hm => by obtain ⟨_, o, h1, h2⟩ := hD b hm; exact hb o h1 h2
  have hI : ∀ b, I b ∧ live w.heap b → w'.heap[b]? = w.heap[b]? := fun b hb => s.heap b (hi.ilt b hb.1) (hlive b hb.2)
  have hmono : ∀ b, I b ∧ live w.heap b → I b ∧ (b < c.w0.heap.size ∨ live w.heap b) := fun b hb => ⟨hb.1, .inr hb.2⟩
  refine ⟨fun b => I b ∧ (b < c.w0.heap.size ∨ live w.heap b), ?_, fun {av m vs} H =>
    (Rl.live H).agree hI hmono (AV.all_of_alive (κ := []) (AV.dies_nil _) (fun _ _ _ _ => rfl) (fun _ _ _ _ => rfl) H)⟩
  exact ⟨hi.erase, fun g hg => (Holds.live (hi.holds g hg)).agree (fun b hb => s.heap b (hi.lt b (List.mem_flatMap.2 ⟨g, hg, hb⟩)) (hown b (List.mem_flatMap.2 ⟨g, hg, hb⟩))) hI hmono, hi.nodup, fun b hb h => hi.apart b hb h.1,
    fun b hb => Nat.lt_of_lt_of_le (hi.lt b hb) s.size, fun b hb => Nat.lt_of_lt_of_le (hi.ilt b hb.1) s.size, s.os.trans hi.os, s.tape.trans hi.tape, s.output.trans hi.output, Nat.le_trans hi.size s.size,
    fun b h1 h2 => (s.heap b (Nat.lt_of_lt_of_le h1 hi.size) (hlow b h1)).trans (hi.frame b h1 h2), hi.fresh, fun b hb => ⟨hi.imono b hb, .inl (hil b hb)⟩, fun b hb => hi.inew b hb.1, hi.base⟩
theorem PlOk.turn {pl : List (Nat × Path × AV)} {w w' : World} {I I' : Nat → Prop} {F : List G} (H : PlOk pl w I F) (h : ∀ {av m vs}, Rl w.heap I F av m vs → Rl w'.heap I' F av m vs) : PlOk pl w' I' F :=
  fun k q av hm => let ⟨g, v, h1, h2, h3⟩ := H k q av hm; ⟨g, v, h1, h2, h h3⟩
theorem shut_put {w : World} {b : Nat} (o : Obj) (h : b < w.heap.size) : Shut [b] w (w.putObj b o) := by
  refine ⟨fun b' _ hb => ?_, ?_, rfl, rfl, rfl⟩
  · have hne : b ≠ b' := fun e => hb (by simp [e])
    show (w.heap.setIfInBounds b o)[b']? = _
    rw [Array.getElem?_setIfInBounds_ne hne]
  · show w.heap.size ≤ (w.heap.setIfInBounds b o).size
    simp
theorem shut_alloc (w : World) (o : Obj) : Shut [] w (w.alloc o) := ⟨fun _ h _ => heap_alloc h, by simp, rfl, rfl, rfl⟩
theorem VC.rangeFunc {c : Cx} {st : St} {g : Operand} {p0 p1 : Tmp} {assign body : Code} {K : Exit → St → Prop} {gf : FuncId} {s : AV} (hil : ∀ b, c.I0 b → b < c.w0.heap.size)
    (hg : st.ev g = .fn gf s) (hbody : HasBody c.P gf) (N : Nat) (v0 v1 : Nat → Value) (h0c : ∀ j, (v0 j).oneCell' = true) (h1c : ∀ j, (v1 j).oneCell' = true) (hp0 : p0 < c.nt) (hp1 : p1 < c.nt)
    (X : Nat → List D) (hX0 : X 0 = st.X) (env2 : Nat → Env) (Rd : List Value → World → Prop)
    (hiter : ∀ lbs, IterC c.P gf lbs.toArray N (fun j => #[v0 j, v1 j]) (Rd lbs))
    (hread : ∀ j W I F lbs, F.map T.erase = X j → (∀ g ∈ F, T.Holds W.heap I g) → Rl W.heap I F s true lbs → Rd lbs W)
    (hA : ∀ j, j < N → ∀ w0 I0 F0, F0.length = (X j).length → VI ⟨c.P, c.nt, w0, I0, F0⟩ assign (fun st' => st' = ⟨env2 j, X j, [], st.pl⟩) ⟨(p1, .val (v1 j)) :: (p0, .val (v0 j)) :: st.env, X j, [], st.pl⟩)
    (hB : ∀ j, j < N → ∀ w0 I0 F0, F0.length = (X j).length → VI ⟨c.P, c.nt, w0, I0, F0⟩ body (fun st' => st'.X = X (j + 1) ∧ (∀ k q s, k < c.F0.length → dead st'.κ k q s = false) ∧ st.env.kill st'.κ = st.env ∧ plKill st'.κ st.pl = st.pl) ⟨env2 j, X j, [], st.pl⟩)
    (hK : K .normal { st with X := X N }) : VC c (.rangeFunc g #[p0, p1] assign body) K st := by
  intro a w ⟨⟨Ds, hds, hdn, hdD⟩, hs, I, F, hi, he, hp⟩
  refine (wpIn_wide (n := 2)).1 (wpIn_rangeFunc ?_)
  intro fn hfn
  obtain ⟨lbs, hgv⟩ : ∃ lbs : List Value, a.eval g = .func (.func gf) #[] lbs.toArray := by
    have := he.ev g
    rw [hg] at this
    obtain ⟨l, h1, _⟩ := this
    exact ⟨l, (List.cons.inj h1).1⟩
  obtain ⟨rec, hrec⟩ : ∃ rec : LoopState → Loop, rec = fun s => { state := s, pending := none, fn, tmps := a.tmps, params := #[p0, p1], assign, body, defers := w.heap.size } := ⟨_, rfl⟩
  obtain ⟨W1, hW1⟩ : ∃ W1, (w.alloc (.deferred (some []))).alloc (.loop (rec .ready)) = W1 := ⟨_, rfl⟩
  have hsz := hi.size
  have hL1 : W1.heap[w.heap.size + 1]? = some (.loop (rec .ready)) := by
    rw [← hW1]; have := World.alloc_heap_new (w.alloc (.deferred (some []))) (.loop (rec .ready)); rwa [World.size_alloc] at this
  have hM1 : W1.heap[w.heap.size]? = some (.deferred (some [])) := by
    rw [← hW1, heap_alloc (by rw [World.size_alloc]; omega)]; exact World.alloc_heap_new w _
  obtain ⟨J, hJ⟩ : ∃ J : Nat → World → Prop, J = fun j W => ∃ I F, Inv c (X j) st.κ W I F ∧ EnvOk st.env a W I F ∧ PlOk st.pl W I F ∧ Dfs c.w0.heap.size (mark w.heap.size :: a.defers) W ∧ W.heap[w.heap.size + 1]? = some (.loop (rec .ready)) := ⟨_, rfl⟩
  have hstart : J 0 W1 := by
    obtain ⟨I1, i1, r1⟩ := Inv.shut (Ds := []) hil hi (fun _ h => by cases h) (shut_alloc w (.deferred (some [])))
    obtain ⟨I2, i2, r2⟩ := Inv.shut (Ds := []) hil i1 (fun _ h => by cases h) (shut_alloc _ (.loop (rec .ready)))
    rw [hW1] at i2 r2
    rw [hJ]
    refine ⟨I2, F, by rw [hX0]; exact i2, fun t => r2 (r1 (he t)), hp.turn fun H => r2 (r1 H), ⟨w.heap.size :: Ds, by rw [hds]; rfl, List.nodup_cons.2 ⟨fun hm => ?_, hdn⟩, fun D hD => ?_⟩, hL1⟩
    · have := (Array.getElem?_eq_some_iff.1 (hdD _ hm).2).1; omega
    · rcases List.mem_cons.1 hD with rfl | hD
      · exact ⟨hsz, hM1⟩
      · obtain ⟨q1, q2⟩ := hdD D hD
        have hlt := (Array.getElem?_eq_some_iff.1 q2).1
        refine ⟨q1, ?_⟩
        rw [← hW1, heap_alloc (by rw [World.size_alloc]; omega), heap_alloc hlt]; exact q2
  have hrd : ∀ j W, J j W → Rd lbs W := fun j W hj => by
    rw [hJ] at hj
    obtain ⟨I', F', i1, e1, _⟩ := hj
    have := e1.ev g
    rw [hg] at this
    obtain ⟨l, h1, h2⟩ := this
    rw [hgv] at h1
    simp only [List.cons.injEq, Value.func.injEq, and_true, true_and] at h1
    have : lbs = l := by simpa using h1
    subst this
    exact hread j W I' F' lbs i1.erase i1.holds h2
  refine ⟨w.heap.size + 1, [mark w.heap.size], W1, { target := .fn (.func gf) lbs.toArray, args := #[.func (.yield (w.heap.size + 1)) #[] #[]] }, W1, gf, #[.func (.yield (w.heap.size + 1)) #[] #[]] ++ lbs.toArray, W1, ?_, ?_, fun _ _ => trivial, ?_, fun _ => by omega, ?_⟩
  · rw [← hW1, hrec]; exact run_enterLoop_outer _ _ _ _ _
  · simp only [resolve, hgv]
    simp [go_sem]
  · simp [invoke, go_sem, run_callFunc hbody]
  · refine CallsIn.mono (hiter lbs 1 (Nat.le_refl _) (w.heap.size + 1) J (fun j W hj hlt => ?_) hrd W1 hstart) ?_
    · rw [hJ] at hj
      obtain ⟨I1, F1, i1, e1, p1', d1, l1⟩ := hj
      have hlt1 : w.heap.size + 1 < W.heap.size := (Array.getElem?_eq_some_iff.1 l1).1
      have hy := run_yield (P := c.P) (args := #[v0 j, v1 j]) l1 (by rw [hrec]; rfl)
      rw [hrec] at hy
      refine ⟨fn, _, assign, body, hy, roundIn_of_wpIn hfn ?_⟩
      have R1 : Rel ⟨c.P, c.nt, W, I1, F1⟩ ⟨(p1, .val (v1 j)) :: (p0, .val (v0 j)) :: st.env, X j, [], st.pl⟩ { tmps := (a.tmps.setIfInBounds p0 (v0 j)).setIfInBounds p1 (v1 j), defers := [] } W := by
        refine ⟨Dfs.none _ _, by simp [hs], I1, F1, i1.rebase c.nt, fun t => ?_, p1'⟩
        simp only [look]
        by_cases q1 : p1 = t
        · subst q1
          rw [if_pos rfl]
          exact ⟨by simp [Array.getD_eq_getD_getElem?, hs, hp1], h1c j⟩
        · rw [if_neg q1]
          by_cases q0 : p0 = t
          · subst q0
            rw [if_pos rfl]
            exact ⟨congrArg (fun x => [x]) (by rw [Array.getD_eq_getD_getElem?, Array.getElem?_setIfInBounds_ne q1]; simp [hs, hp0]), h0c j⟩
          · rw [if_neg q0]
            have := e1 t
            simpa [Array.getD_eq_getD_getElem?, Array.getElem?_setIfInBounds_ne q1, Array.getElem?_setIfInBounds_ne q0] using this
      have hfold : ((#[p0, p1] : Array Tmp).zip #[v0 j, v1 j]).foldl (fun tmps (t, a) => tmps.setIfInBounds t a) a.tmps = (a.tmps.setIfInBounds p0 (v0 j)).setIfInBounds p1 (v1 j) := by simp
      simp only [hfold]
      refine wpIn_mono (hA j hlt W I1 F1 (by rw [← i1.erase]; simp) _ W _ _ R1) ?_
      rintro e a2 W2 ⟨rfl, ⟨st2, rfl, hr2⟩, hde2⟩
      obtain ⟨_, hs2, I2, F2, i2, e2, p2⟩ := hr2
      have S2 := Stp.of_inv (nb := c.F0.length) i2
      have i2c := i1.step S2
      rw [i2.erase, List.nil_append] at i2c
      have e2c := e1.step i1 S2
      rw [Env.kill_nil] at e2c
      have p2c := p1'.step i1 S2
      rw [plKill_nil] at p2c
      have d2 := d1.step i1 S2
      have l2 : W2.heap[w.heap.size + 1]? = some (.loop (rec .ready)) := (i2.frame _ hlt1 (own_not_book i1.holds l1 trivial)).trans l1
      have hlt2 : w.heap.size + 1 < W2.heap.size := (Array.getElem?_eq_some_iff.1 l2).1
      refine ⟨_, run_beginRound l2 (by rw [hrec]), ?_⟩
      obtain ⟨I3, i3, r3⟩ := Inv.shut hil i2c (Ds := [w.heap.size + 1]) (fun D hD => by simp only [List.mem_singleton] at hD; subst hD; exact ⟨by omega, _, l2, trivial⟩) (shut_put (.loop { rec .ready with state := .busy }) hlt2)
      have l3 : (W2.putObj (w.heap.size + 1) (.loop { rec .ready with state := .busy })).heap[w.heap.size + 1]? = some (.loop { rec .ready with state := .busy }) := World.putObj_heap_same hlt2
      have d3 : Dfs c.w0.heap.size (mark w.heap.size :: a.defers) (W2.putObj (w.heap.size + 1) (.loop { rec .ready with state := .busy })) := d2.turn fun D _ h => by
        have hne : D ≠ w.heap.size + 1 := fun e => by subst e; rw [l2] at h; cases h
        exact (World.putObj_heap_other hne).trans h
      have R3 : Rel ⟨c.P, c.nt, W2.putObj (w.heap.size + 1) (.loop { rec .ready with state := .busy }), I3, F2⟩ ⟨env2 j, X j, [], st.pl⟩ a2 (W2.putObj (w.heap.size + 1) (.loop { rec .ready with state := .busy })) :=
        ⟨by rw [hde2]; exact Dfs.none _ _, hs2, I3, F2, i3.rebase c.nt, fun t => r3 (e2 t), p2c.turn r3⟩
      refine wpIn_mono (hB j hlt _ I3 F2 (by have := congrArg List.length i3.erase; simpa using this) a2 _ _ _ R3) ?_
      rintro e a4 W4 ⟨rfl, ⟨st4, ⟨hx4, hκ4, hk4, hpk4⟩, hr4⟩, _⟩
      obtain ⟨_, hs4, I4, F4, i4, e4, p4⟩ := hr4
      have S4 := Stp.of_inv (nb := c.F0.length) i4
      have i4c := (i3.step S4).unkill hκ4
      rw [i4.erase, hx4] at i4c
      have e4c := EnvOk.step (e := st.env) (a := a) i3 S4 (fun t => r3 (e2c t))
      rw [hk4] at e4c
      have p4c := (p2c.turn r3).step i3 S4
      rw [hpk4] at p4c
      have d4 := d3.step i3 S4
      have l4 : W4.heap[w.heap.size + 1]? = some (.loop { rec .ready with state := .busy }) := (i4.frame _ (Array.getElem?_eq_some_iff.1 l3).1 (own_not_book i3.holds l3 trivial)).trans l3
      have hlt4 : w.heap.size + 1 < W4.heap.size := (Array.getElem?_eq_some_iff.1 l4).1
      refine ⟨_, _, run_endRound none l4, rfl, ?_⟩
      obtain ⟨I5, i5, r5⟩ := Inv.shut hil i4c (Ds := [w.heap.size + 1]) (fun D hD => by simp only [List.mem_singleton] at hD; subst hD; exact ⟨by omega, _, l4, trivial⟩) (shut_put (.loop { rec .ready with state := .ready, pending := none }) hlt4)
      rw [hJ]
      refine ⟨I5, F4, i5, fun t => r5 (e4c t), p4c.turn r5, d4.turn fun D _ h => ?_, ?_⟩
      · have hne : D ≠ w.heap.size + 1 := fun e => by subst e; rw [l4] at h; cases h
        exact (World.putObj_heap_other hne).trans h
      · have := World.putObj_heap_same (o := .loop { rec .ready with state := .ready, pending := none }) hlt4
        rw [hrec] at this ⊢
        exact this
    · rintro e W2 ⟨⟨v, rfl⟩, hj⟩
      rw [hJ] at hj
      obtain ⟨I1, F1, i1, e1, p1', d1, l1⟩ := hj
      have hlt1 : w.heap.size + 1 < W2.heap.size := (Array.getElem?_eq_some_iff.1 l1).1
      refine ⟨none, _, by have := run_endLoop (P := c.P) l1 (by rw [hrec]; simp); rw [hrec] at this; exact this, ?_⟩
      obtain ⟨I5, i5, r5⟩ := Inv.shut hil i1 (Ds := [w.heap.size + 1]) (fun D hD => by simp only [List.mem_singleton] at hD; subst hD; exact ⟨by omega, _, l1, trivial⟩) (shut_put (.loop { rec .ready with state := .exhausted }) hlt1)
      rw [hrec] at i5 r5
      refine ⟨{ st with X := X N }, hK, d1.turn fun D _ h => ?_, hs, I5, F1, i5, fun t => r5 (e1 t), p1'.turn r5⟩
      have hne : D ≠ w.heap.size + 1 := fun e => by subst e; rw [l1] at h; cases h
      exact (World.putObj_heap_other hne).trans h
theorem VS.rangeFunc {c : Cx} {st : St} {g : Operand} {p0 p1 : Tmp} {assign body : Code} {l : List Code} {K : Exit → St → Prop} {gf : FuncId} {s : AV} (hil : ∀ b, c.I0 b → b < c.w0.heap.size)
    (hg : st.ev g = .fn gf s) (hbody : HasBody c.P gf) (N : Nat) (v0 v1 : Nat → Value) (h0c : ∀ j, (v0 j).oneCell' = true) (h1c : ∀ j, (v1 j).oneCell' = true) (hp0 : p0 < c.nt) (hp1 : p1 < c.nt)
    (X : Nat → List D) (hX0 : X 0 = st.X) (env2 : Nat → Env) (Rd : List Value → World → Prop)
    (hiter : ∀ lbs, IterC c.P gf lbs.toArray N (fun j => #[v0 j, v1 j]) (Rd lbs))
    (hread : ∀ j W I F lbs, F.map T.erase = X j → (∀ g ∈ F, T.Holds W.heap I g) → Rl W.heap I F s true lbs → Rd lbs W)
    (hA : ∀ j, j < N → ∀ w0 I0 F0, F0.length = (X j).length → VI ⟨c.P, c.nt, w0, I0, F0⟩ assign (fun st' => st' = ⟨env2 j, X j, [], st.pl⟩) ⟨(p1, .val (v1 j)) :: (p0, .val (v0 j)) :: st.env, X j, [], st.pl⟩)
    (hB : ∀ j, j < N → ∀ w0 I0 F0, F0.length = (X j).length → VI ⟨c.P, c.nt, w0, I0, F0⟩ body (fun st' => st'.X = X (j + 1) ∧ (∀ k q s, k < c.F0.length → dead st'.κ k q s = false) ∧ st.env.kill st'.κ = st.env ∧ plKill st'.κ st.pl = st.pl) ⟨env2 j, X j, [], st.pl⟩)
    (hK : VS c l K { st with X := X N }) : VS c (.rangeFunc g #[p0, p1] assign body :: l) K st := by
  have h := VC.rangeFunc (K := thenK (VS c l K) K) hil hg hbody N v0 v1 h0c h1c hp0 hp1 X hX0 env2 Rd hiter hread hA hB hK
  with_unfolding_all exact h
/-- Steps that are no steps of the machine, in a round. -/
theorem VI.keepV {c : Cx} {code : Code} {K : St → Prop} {st : St} (ts : List Tmp) (h : VI c code K (st.keep ts)) : VI c code K st := by
  refine VI.ghost (st' := st.keep ts) (fun a w hr => ?_) h
  obtain ⟨h1, h2, I, F, hi, he, hp⟩ := hr
  refine ⟨h1, h2, I, F, hi, fun t => ?_, hp⟩
  show Rl w.heap I F (look (ts.map fun t => (t, look st.env t)) t) true _
  rcases look_keep st.env t ts with h | h
  · rw [h]; exact ⟨_, rfl⟩
  · rw [h]; exact he t
theorem VI.lift {c : Cx} {code : Code} {K : St → Prop} {st : St} (k : Nat) (q : Path) (hlen : k < st.X.length) (hok : (st.tree k).okp q = true) (hn : isNode ((st.tree k).at_ q) = true)
    (hne : T.noEntry (st.tree k) q = true) (h : VI c code K (st.lift c.F0.length k q)) : VI c code K st := VI.ghost (fun _ _ hr => hr.lift hlen hok hn hne) h
theorem VI.block {c : Cx} {id : Nat} {code : Code} {K : St → Prop} {st : St} (h : VI c code K st) : VI c (.block id code) K st := fun a w lo n hr =>
  wpIn_block (wpIn_mono (h a w lo n hr) fun e a' w' ⟨h1, h2⟩ => by subst h1; exact ⟨rfl, h2⟩)
/-- A region in a round; some slots and roots are kept behind it. -/
theorem VI.regionPick {c : Cx} {τ : Tab} (hτ : Tab.Ok c.P τ) {id : Nat} {ops : List Oper} {K : St → Prop} {st : St} (ts : List Tmp) (sel : List Nat) (gs : List (Nat × Tmp)) (hd : regOk c.nt ops gs = true)
    (h : vcOps c τ gs ops 0 st fun st' => selOk c.F0.length st'.X.length sel = true ∧ K (st'.pick ts sel)) : VI c (.region id ops.toArray false) K st :=
  VI.mono' (VI.region hτ gs hd h) fun _ _ _ h1 hr => ⟨_, h1.2, hr.pick ts h1.1⟩
theorem Rl.unshift {h : Array Obj} {I I' : Nat → Prop} {F : List G} {g0 : G} (hI : ∀ b, I b → I' b) {av : AV} : ∀ {m : Bool} {vs : List Value}, Rl h I (g0 :: F) (av.emb [] 1) m vs → Rl h I' F av m vs := by
  have hk : ∀ k, embK [] 1 k = (k + 1, []) := fun k => by simp [embK]; omega
  induction av with
  | bad => intro m vs H; cases m <;> exact H
  | val v => intro m vs H; cases m <;> exact H
  | nils z => intro m vs H; cases m <;> exact H
  | cut z => intro m vs H; cases m <;> exact H
  | ptr k q =>
    intro m vs H
    have e : (AV.ptr k q).emb [] 1 = .ptr (k + 1) q := by simp only [AV.emb, hk, List.nil_append]
    rw [e] at H
    cases m <;> (obtain ⟨b, o, h1, h2⟩ := H; exact ⟨b, o, by simpa [locF] using h1, h2⟩)
  | sub k q lo n ex =>
    intro m vs H
    have e : (AV.sub k q lo n ex).emb [] 1 = .sub (k + 1) q lo n ex := by simp only [AV.emb, hk, List.nil_append]
    rw [e] at H
    cases m <;> (obtain ⟨own, a, z, len, v, h1, h2⟩ := H; exact ⟨own, a, z, len, v, by simpa [hdrF] using h1, h2⟩)
  | mp k q =>
    intro m vs H
    have e : (AV.mp k q).emb [] 1 = .mp (k + 1) q := by simp only [AV.emb, hk, List.nil_append]
    rw [e] at H
    cases m <;> (obtain ⟨own, r, z, len, h1, h2⟩ := H; exact ⟨own, r, z, len, by simpa [hdrF] using h1, h2⟩)
  | imm z s ex => intro m vs H; exact Rl.still (av := .imm z s ex) H hI rfl
  | iptr d => intro m vs H; exact Rl.still (av := .iptr d) H hI rfl
  | nil => intro m vs H; cases m <;> exact H
  | cons a t iha iht =>
    intro m vs H
    cases m
    · obtain ⟨v1, v2, h1, h2, h3⟩ := H
      exact ⟨v1, v2, h1, iha h2, iht h3⟩
    · obtain ⟨v1, v2, h1, h2, h3⟩ := H
      exact ⟨v1, v2, h1, iha h2, iht h3⟩
  | agg s ih =>
    intro m vs H
    cases m
    · exact ih (m := false) H
    · obtain ⟨cs, h1, h2⟩ := H
      exact ⟨cs, h1, ih h2⟩
  | tup s ih =>
    intro m vs H
    cases m
    · exact H
    · obtain ⟨cs, h1, h2⟩ := H
      exact ⟨cs, h1, ih h2⟩
  | fn f s ih =>
    intro m vs H
    cases m <;> (obtain ⟨cs, h1, h2⟩ := H; exact ⟨cs, h1, ih h2⟩)

/-- The same, where the call gets more trees than the receiver. -/
theorem Meets.thawR {P : Program} {f : FuncId} {d : D} {Y : List D} {t : AV} {R : AV → List D → List (Nat × Path) → Prop} (h : Meets P f Y (.cons (.iptr d.freeze) t) R)
    (hR : ∀ av X κ, R av X κ → av.plain = true ∧ (∀ x ∈ X, x.allOwn = true) ∧ κ = []) :
    Meets P f (.box true () d :: Y) (.cons (.ptr 0 [.d]) (t.emb [] 1)) fun av X κ => ∃ av0 X0, R av0 X0 [] ∧ av = av0.emb [] 1 ∧ X = .box true () d :: X0 ∧ κ = [] := by
  refine ⟨h.1, fun w I F0 vs hY hH hnd hap hlt hil hvs => ?_⟩
  obtain ⟨g0, FY, rfl⟩ : ∃ g0 FY, F0 = g0 :: FY := by
    cases F0 with
    | nil => simp at hY
    | cons g0 l => exact ⟨g0, l, rfl⟩
  simp only [List.map_cons, List.cons.injEq] at hY
  obtain ⟨hY, hYs⟩ := hY
  have hg0 := hH g0 (by simp)
  obtain ⟨a, g, rfl⟩ : ∃ a g, g0 = .box true a g := by
    cases g0 <;> simp only [T.erase] at hY <;> cases hY
    exact ⟨_, _, rfl⟩
  simp only [T.erase, T.box.injEq, true_and] at hY
  obtain ⟨h1, h3, h4⟩ := id hg0
  have howns : own [(.box true a g : G)] = blk a ++ g.owned := by simp [own, T.owned]
  obtain ⟨v, vs', rfl, hv, hrest⟩ := hvs
  obtain ⟨b, o, hl, hv⟩ := hv
  simp only [List.cons.injEq, and_true] at hv
  split at h4
  case h_2 => exact h4.elim
  rename_i x
  obtain ⟨k1, _, _, k2⟩ := h4
  obtain ⟨xb, xo, xs⟩ := x
  simp only at k1
  subst k1
  have hbo : b = xb ∧ o = xo := by
    simp only [locF, List.getElem?_cons_zero, Option.bind_some, T.loc, T.headAt, Option.some.injEq, Loc.abs.injEq] at hl
    exact ⟨hl.1.symm, by omega⟩
  obtain ⟨rfl, rfl⟩ := hbo
  have hcons : ∀ F : List G, own (T.box true (.pointer (some ⟨b, o, none⟩)) g :: F) = own [(.box true (.pointer (some ⟨b, o, none⟩)) g : G)] ++ own F := fun F => by simp [own]
  rw [hcons] at hnd hap hlt
  obtain ⟨hnd1, hnd2, hnd3⟩ := List.nodup_append.1 hnd
  have hblk : b ∈ own [(.box true (.pointer (some ⟨b, o, none⟩)) g : G)] := by rw [howns]; simp [blk]
  have harg : Rl w.heap (fun b' => I b' ∨ b' ∈ own [(.box true (.pointer (some ⟨b, o, none⟩)) g : G)]) FY (.cons (.iptr d.freeze) t) true (v :: vs') := by
    refine ⟨v, vs', rfl, ⟨v, rfl, g.freeze, ⟨b, o, none⟩, by rw [T.freeze_erase, hY], h1.freeze (fun b hb => .inl hb) (fun b hb => .inr (by rw [howns]; simp [hb])), T.freeze_free g, hv, rfl, .inr hblk, by rw [T.freeze_cells]; exact k2⟩, hrest.unshift (fun b hb => .inl hb)⟩
  refine Calls.mono (h.2 w _ FY (v :: vs') hYs (fun g' hg' => (hH g' (by simp [hg'])).agree (fun _ _ => rfl) (fun _ _ => rfl) fun _ h => .inl h) hnd2
    (fun b' hb h' => h'.elim (hap b' (by simp [hb])) fun h' => hnd3 b' h' b' hb rfl) (fun b' hb => hlt b' (by simp [hb])) (fun b' hb => hb.elim (hil b') fun h' => hlt b' (by simp [h'])) harg) fun e w' he => ?_
  obtain ⟨v', av, X, κ, I', F', rfl, hRR, hi, hr⟩ := he
  obtain ⟨hp, hX, rfl⟩ := hR _ _ _ hRR
  have hframe : ∀ b', b' < w.heap.size → b' ∉ own FY → w'.heap[b']? = w.heap[b']? := fun b' hb hn => hi.frame b' hb hn
  have hfresh : ∀ b' ∈ own F', b' < w.heap.size → b' ∈ own FY := fun b' hb h' => hi.fresh b' hb h'
  have hg0own : ∀ b' ∈ own [(.box true (.pointer (some ⟨b, o, none⟩)) g : G)], w'.heap[b']? = w.heap[b']? := fun b' hb => hframe b' (hlt b' (by simp [hb])) fun h' => hnd3 b' hb b' h' rfl
  refine ⟨v', av.emb [] 1, .box true () d :: X, [], I, _, rfl, ⟨av, X, hRR, rfl, rfl, rfl⟩, ⟨?_, ?_, ?_, ?_, ?_, ?_, hi.os, hi.tape, hi.output, hi.size, ?_, ?_, fun _ hb => hb, fun _ hb => .inl hb, ?_⟩, hr.shift (g0 := .box true (.pointer (some ⟨b, o, none⟩)) g) hp⟩
  · simp [T.erase, hY, hi.erase]
  · intro g' hg'
    rcases List.mem_cons.1 hg' with rfl | hg'
    · exact hg0.agree (fun b' hb => hg0own b' (by simpa [own] using hb)) (fun b' hb => hframe b' (hil b' hb) fun h' => hap b' (by simp [h']) hb) fun _ h => h
    · refine (hi.holds g' hg').own ?_
      rw [← T.allOwn_erase]
      exact hX _ (by rw [← hi.erase]; exact List.mem_map_of_mem hg')
  · rw [hcons]
    refine List.nodup_append.2 ⟨hnd1, hi.nodup, fun x hx y hy hxy => ?_⟩
    subst hxy
    exact hnd3 x hx x (hfresh x hy (hlt x (by simp [hx]))) rfl
  · intro b' hb
    rw [hcons] at hb
    rcases List.mem_append.1 hb with hb | hb
    · exact hap b' (by simp [hb])
    · intro hI
      exact hap b' (by simp [hfresh b' hb (hil b' hI)]) hI
  · intro b' hb
    rw [hcons] at hb
    rcases List.mem_append.1 hb with hb | hb
    · exact Nat.lt_of_lt_of_le (hlt b' (by simp [hb])) hi.size
    · exact hi.lt b' hb
  · exact fun b' hb => Nat.lt_of_lt_of_le (hil b' hb) hi.size
  · intro b' hb hn
    rw [hcons] at hn
    exact hframe b' hb fun h' => hn (by simp [h'])
  · intro b' hb hlt'
    rw [hcons] at hb ⊢
    rcases List.mem_append.1 hb with hb | hb
    · simp [hb]
    · simp [hfresh b' hb hlt']
  · intro k g1 hk
    cases k with
    | zero =>
      simp only [List.getElem?_cons_zero, Option.some.injEq] at hk
      subst hk
      exact ⟨_, rfl, rfl, fun _ _ => rfl, fun _ _ => rfl, fun _ _ h _ => h⟩
    | succ k =>
      simp only [List.getElem?_cons_succ] at hk
      obtain ⟨g', q1, q2, q3, q4, q5⟩ := hi.base k g1 hk
      exact ⟨g', by simpa using q1, q2, fun q _ => q3 q rfl, fun q _ => q4 q rfl, fun q v hq _ => q5 q v hq rfl⟩
/-- What is named of the first tree, as what cannot change; the other trees move up. -/
def AV.chilled (d0 : D) : AV → AV
  | .ptr 0 q => match q, d0 with
    | [.d], .box true _ d => .iptr d.freeze
    | _, _ => .bad
  | .ptr (k + 1) q => .ptr k q
  | .sub 0 q lo n ex => match q, d0 with
    | [], .sl true _ z s => .imm z (s.mid lo n).freeze ex
    | [], _ => .bad
    | x :: q, d0 => match d0.at_ (x :: q) with
      | .sl true _ z s => .imm z (s.mid lo n).freeze ex
      | _ => .bad
  | .sub (k + 1) q lo n ex => .sub k q lo n ex
  | .mp 0 _ => .bad
  | .mp (k + 1) q => .mp k q
  | .cons a t => .cons (a.chilled d0) (t.chilled d0)
  | .agg s => .agg (s.chilled d0)
  | .tup s => .tup (s.chilled d0)
  | .fn f s => .fn f (s.chilled d0)
  | a => a

theorem Rl.chilled {h : Array Obj} {I I' : Nat → Prop} {F : List G} {g0 : G} (hg : T.Holds h I g0) (hI : ∀ b, I b → I' b) (ho : ∀ b ∈ g0.owned, I' b) {av : AV} :
    ∀ {m : Bool} {vs : List Value}, Rl h I (g0 :: F) av m vs → Rl h I' F (av.chilled g0.erase) m vs := by
  have hbad : ∀ {m : Bool} {v : Value}, v.oneCell' = true → Rl h I' F .bad m [v] := fun {m v} hv => by
    cases m
    · exact ⟨v, rfl, hv⟩
    · exact ⟨v, rfl⟩
  induction av with
  | bad => intro m vs H; cases m <;> exact H
  | val v => intro m vs H; cases m <;> exact H
  | nils z => intro m vs H; cases m <;> exact H
  | cut z => intro m vs H; cases m <;> exact H
  | ptr k q =>
    intro m vs H
    have H : ∃ b o, locF (g0 :: F) k q = some (.abs b o) ∧ vs = [.pointer (some ⟨b, o, none⟩)] := by cases m <;> exact H
    obtain ⟨b, o, h1, rfl⟩ := H
    cases k with
    | succ k => cases m <;> exact ⟨b, o, by simpa [locF, AV.chilled] using h1, rfl⟩
    | zero =>
      simp only [AV.chilled]
      split
      · rename_i d he
        obtain ⟨a, g, rfl⟩ : ∃ a g, g0 = .box true a g := by
          cases g0 <;> simp only [T.erase] at he <;> cases he
          exact ⟨_, _, rfl⟩
        simp only [T.erase, T.box.injEq, true_and] at he
        obtain ⟨q1, q3, q4⟩ := id hg
        split at q4
        case h_2 => exact q4.elim
        rename_i x
        obtain ⟨k1, _, _, k2⟩ := q4
        obtain ⟨xb, xo, xs⟩ := x
        simp only at k1
        subst k1
        have hbo : b = xb ∧ o = xo := by
          simp only [locF, List.getElem?_cons_zero, Option.bind_some, T.loc, T.headAt, Option.some.injEq, Loc.abs.injEq] at h1
          exact ⟨h1.1.symm, by omega⟩
        obtain ⟨rfl, rfl⟩ := hbo
        have hr : IptrRel h I' d.freeze (.pointer (some ⟨b, o, none⟩)) :=
          ⟨g.freeze, ⟨b, o, none⟩, by rw [T.freeze_erase, he], q1.freeze hI (fun b hb => ho b (by simp [T.owned, hb])), T.freeze_free g, rfl, rfl, ho b (by simp [T.owned, blk]), by rw [T.freeze_cells]; exact k2⟩
        cases m <;> exact ⟨_, rfl, hr⟩
      · exact hbad rfl
  | sub k q lo n ex =>
    intro m vs H
    have H : ∃ own a z len v, hdrF (g0 :: F) k q = some (own, a, z, len) ∧ vs = [v] ∧ SubRel a z len lo n ex v := by cases m <;> exact H
    obtain ⟨own, a, z, len, v, h1, rfl, h2⟩ := H
    cases k with
    | succ k => cases m <;> exact ⟨own, a, z, len, v, by simpa [hdrF, AV.chilled] using h1, rfl, h2⟩
    | zero =>
      have main : ∀ {z' : Nat} {s : D}, ((g0.at_ q).erase = .sl true () z' s) → Rl h I' F (.imm z' (s.mid lo n).freeze ex) m [v] := fun {z' s} he => by
        have hgq := hg.at_ q
        have hoq : ∀ b ∈ (g0.at_ q).owned, I' b := fun b hb => ho b ((T.owned_at_sublist hg q).subset hb)
        simp only [hdrF, List.getElem?_cons_zero, Option.bind_some] at h1
        generalize g0.at_ q = g1 at *
        obtain ⟨a', s0, rfl⟩ : ∃ a' s0, g1 = .sl true a' z' s0 := by
          cases g1 <;> simp only [T.erase] at he <;> cases he
          exact ⟨_, _, rfl⟩
        simp only [T.erase, T.sl.injEq, true_and] at he
        simp only [hdr, Option.some.injEq, Prod.mk.injEq] at h1
        obtain ⟨rfl, rfl, rfl, rfl⟩ := h1
        obtain ⟨hs, hl⟩ := T.Holds.stretch hgq h2
        have hsub : ∀ b ∈ (T.sl true v z' (s0.mid lo n) : G).owned, b ∈ (T.sl true a' z' s0 : G).owned := fun b hb => by
          have q1 := (T.owned_mid s0 lo n).count_le b
          obtain ⟨A, c, rfl, _, _, _, _, h4⟩ := h2
          rw [mem_of_count] at hb ⊢
          simp only [T.owned, List.count_append, if_true] at hb ⊢
          split at h4
          · obtain ⟨rfl, _⟩ := h4; simp only [blk, List.count_nil] at hb ⊢; omega
          · rename_i x n' cap; obtain ⟨y, rfl, _, h6, h7, _⟩ := h4; have := T.blk_sub (n := n) (n' := n') h6 (Nat.le_trans (Nat.le_add_left c lo) h7) b; omega
          · exact h4.elim
        have hr : ImmRel h I' z' (s.mid lo n).freeze ex v := ⟨(s0.mid lo n).freeze, by rw [T.freeze_erase, T.erase_mid, he], hs.freeze hI fun b hb => hoq b (hsub b hb), fun he A n' c hv => by obtain ⟨A', c', q, _, _, _, q4, _⟩ := h2; rw [q] at hv; cases hv; exact q4 he⟩
        cases m <;> exact ⟨_, rfl, hr⟩
      simp only [AV.chilled]
      split
      · rename_i he
        exact main (by rw [T.at_]; exact he)
      · exact hbad (Rl_sub_one h2)
      · split
        · rename_i he
          exact main (by rw [T.erase_at]; exact he)
        · exact hbad (Rl_sub_one h2)
  | mp k q =>
    intro m vs H
    have H : ∃ own r z len, hdrF (g0 :: F) k q = some (own, .map (some r), z, len) ∧ vs = [.map (some r)] := by cases m <;> exact H
    obtain ⟨own, r, z, len, h1, rfl⟩ := H
    cases k with
    | succ k => cases m <;> exact ⟨own, r, z, len, by simpa [hdrF, AV.chilled] using h1, rfl⟩
    | zero => exact hbad rfl
  | imm z s ex => intro m vs H; exact Rl.still (av := .imm z s ex) H hI rfl
  | iptr d => intro m vs H; exact Rl.still (av := .iptr d) H hI rfl
  | nil => intro m vs H; cases m <;> exact H
  | cons a t iha iht =>
    intro m vs H
    cases m
    · obtain ⟨v1, v2, h1, h2, h3⟩ := H
      exact ⟨v1, v2, h1, iha h2, iht h3⟩
    · obtain ⟨v1, v2, h1, h2, h3⟩ := H
      exact ⟨v1, v2, h1, iha h2, iht h3⟩
  | agg s ih =>
    intro m vs H
    cases m
    · exact ih (m := false) H
    · obtain ⟨cs, h1, h2⟩ := H
      exact ⟨cs, h1, ih h2⟩
  | tup s ih =>
    intro m vs H
    cases m
    · exact H
    · obtain ⟨cs, h1, h2⟩ := H
      exact ⟨cs, h1, ih h2⟩
  | fn f s ih =>
    intro m vs H
    cases m <;> (obtain ⟨cs, h1, h2⟩ := H; exact ⟨cs, h1, ih h2⟩)

theorem dead_shift (κ : List (Nat × Path)) (k : Nat) (q : Path) (s : Bool) : dead (κ.map fun e => (e.1 + 1, e.2)) (k + 1) q s = dead κ k q s := by
  induction κ with
  | nil => rfl
  | cons e κ ih => simp only [dead, List.map_cons, List.any_cons] at ih ⊢; rw [ih]; simp
/-- What was shown of a tree that cannot change holds of one that can, and leaves it as it is; what comes out must be all new. -/
theorem Meets.warmK {P : Program} {f : FuncId} {d0 : D} {Y : List D} {t : AV} {R : AV → List D → List (Nat × Path) → Prop} (h : Meets P f Y (t.chilled d0) R)
    (hR : ∀ av X κ, R av X κ → av.plain = true ∧ (∀ x ∈ X, x.allOwn = true)) :
    Meets P f (d0 :: Y) t fun av X κ => ∃ av0 X0 κ0, R av0 X0 κ0 ∧ av = av0.emb [] 1 ∧ X = d0 :: X0 ∧ κ = κ0.map fun e => (e.1 + 1, e.2) := by
  refine ⟨h.1, fun w I F0 vs hY hH hnd hap hlt hil hvs => ?_⟩
  obtain ⟨g0, FY, rfl⟩ : ∃ g0 FY, F0 = g0 :: FY := by
    cases F0 with
    | nil => simp at hY
    | cons g0 l => exact ⟨g0, l, rfl⟩
  simp only [List.map_cons, List.cons.injEq] at hY
  obtain ⟨hY, hYs⟩ := hY
  have hg0 := hH g0 (by simp)
  have hcons : ∀ F : List G, own (g0 :: F) = own [g0] ++ own F := fun F => by simp [own]
  have hog : own [g0] = g0.owned := by simp [own]
  rw [hcons] at hnd hap hlt
  obtain ⟨hnd1, hnd2, hnd3⟩ := List.nodup_append.1 hnd
  have harg := hvs.chilled (I' := fun b' => I b' ∨ b' ∈ own [g0]) hg0 (fun _ h => .inl h) (fun b hb => .inr (by rw [hog]; exact hb))
  rw [hY] at harg
  refine Calls.mono (h.2 w _ FY vs hYs (fun g' hg' => (hH g' (by simp [hg'])).agree (fun _ _ => rfl) (fun _ _ => rfl) fun _ h => .inl h) hnd2
    (fun b' hb h' => h'.elim (hap b' (by simp [hb])) fun h' => hnd3 b' h' b' hb rfl) (fun b' hb => hlt b' (by simp [hb])) (fun b' hb => hb.elim (hil b') fun h' => hlt b' (by simp [h'])) harg) fun e w' he => ?_
  obtain ⟨v', av, X, κ, I', F', rfl, hRR, hi, hr⟩ := he
  obtain ⟨hp, hX⟩ := hR _ _ _ hRR
  have hframe : ∀ b', b' < w.heap.size → b' ∉ own FY → w'.heap[b']? = w.heap[b']? := fun b' hb hn => hi.frame b' hb hn
  have hfresh : ∀ b' ∈ own F', b' < w.heap.size → b' ∈ own FY := fun b' hb h' => hi.fresh b' hb h'
  have hg0own : ∀ b' ∈ own [g0], w'.heap[b']? = w.heap[b']? := fun b' hb => hframe b' (hlt b' (by simp [hb])) fun h' => hnd3 b' hb b' h' rfl
  refine ⟨v', av.emb [] 1, d0 :: X, κ.map fun e => (e.1 + 1, e.2), I, g0 :: F', rfl, ⟨av, X, κ, hRR, rfl, rfl, rfl⟩, ⟨?_, ?_, ?_, ?_, ?_, ?_, hi.os, hi.tape, hi.output, hi.size, ?_, ?_, fun _ hb => hb, fun _ hb => .inl hb, ?_⟩, hr.shift (g0 := g0) hp⟩
  · simp [hY, hi.erase]
  · intro g' hg'
    rcases List.mem_cons.1 hg' with rfl | hg'
    · exact hg0.agree (fun b' hb => hg0own b' (by simpa [own] using hb)) (fun b' hb => hframe b' (hil b' hb) fun h' => hap b' (by simp [h']) hb) fun _ h => h
    · refine (hi.holds g' hg').own ?_
      rw [← T.allOwn_erase]
      exact hX _ (by rw [← hi.erase]; exact List.mem_map_of_mem hg')
  · rw [hcons]
    refine List.nodup_append.2 ⟨hnd1, hi.nodup, fun x hx y hy hxy => ?_⟩
    subst hxy
    exact hnd3 x hx x (hfresh x hy (hlt x (by simp [hx]))) rfl
  · intro b' hb
    rw [hcons] at hb
    rcases List.mem_append.1 hb with hb | hb
    · exact hap b' (by simp [hb])
    · intro hI
      exact hap b' (by simp [hfresh b' hb (hil b' hI)]) hI
  · intro b' hb
    rw [hcons] at hb
    rcases List.mem_append.1 hb with hb | hb
    · exact Nat.lt_of_lt_of_le (hlt b' (by simp [hb])) hi.size
    · exact hi.lt b' hb
  · exact fun b' hb => Nat.lt_of_lt_of_le (hil b' hb) hi.size
  · intro b' hb hn
    rw [hcons] at hn
    exact hframe b' hb fun h' => hn (by simp [h'])
  · intro b' hb hlt'
    rw [hcons] at hb ⊢
    rcases List.mem_append.1 hb with hb | hb
    · simp [hb]
    · simp [hfresh b' hb hlt']
  · intro k g1 hk
    cases k with
    | zero =>
      simp only [List.getElem?_cons_zero, Option.some.injEq] at hk
      subst hk
      exact ⟨_, rfl, rfl, fun _ _ => rfl, fun _ _ => rfl, fun _ _ h _ => h⟩
    | succ k =>
      simp only [List.getElem?_cons_succ] at hk
      obtain ⟨g', q1, q2, q3, q4, q5⟩ := hi.base k g1 hk
      exact ⟨g', by simpa using q1, q2, fun q hq => q3 q (by rwa [dead_shift] at hq), fun q hq => q4 q (by rwa [dead_shift] at hq), fun q v hv hq => q5 q v hv (by rwa [dead_shift] at hq)⟩

theorem Meets.warm {P : Program} {f : FuncId} {d0 : D} {Y : List D} {t : AV} {R : AV → List D → List (Nat × Path) → Prop} (h : Meets P f Y (t.chilled d0) R)
    (hR : ∀ av X κ, R av X κ → av.plain = true ∧ (∀ x ∈ X, x.allOwn = true) ∧ κ = []) :
    Meets P f (d0 :: Y) t fun av X κ => ∃ av0 X0, R av0 X0 [] ∧ av = av0.emb [] 1 ∧ X = d0 :: X0 ∧ κ = [] :=
  Meets.mono (Meets.warmK h fun av X κ hh => ⟨(hR _ _ _ hh).1, (hR _ _ _ hh).2.1⟩) fun av X κ ⟨av0, X0, κ0, h1, h2, h3, h4⟩ => by
    obtain rfl := (hR _ _ _ h1).2.2
    exact ⟨av0, X0, h1, h2, h3, h4⟩

/-- Empty lists, as lists that cannot change. -/
def AV.nilled : AV → AV
  | .nils z => .imm z .nil true
  | .cons a t => .cons a.nilled t.nilled
  | .agg s => .agg s.nilled
  | .tup s => .tup s.nilled
  | .fn f s => .fn f s.nilled
  | a => a
theorem Rl.nilled {h : Array Obj} {I : Nat → Prop} {F : List G} {av : AV} : ∀ {m : Bool} {vs : List Value}, Rl h I F av m vs → Rl h I F av.nilled m vs := by
  induction av with
  | nils z =>
    intro m vs H
    have H : vs = [.slice none 0 0] := by cases m <;> exact H
    subst H
    have hr : ImmRel h I z .nil true (.slice none 0 0) := ⟨.nil, rfl, ⟨trivial, trivial, fun _ => rfl, rfl, rfl, rfl⟩, fun _ A n c e => by cases e; rfl⟩
    cases m <;> exact ⟨_, rfl, hr⟩
  | cons a t iha iht =>
    intro m vs H
    cases m
    · obtain ⟨v1, v2, h1, h2, h3⟩ := H
      exact ⟨v1, v2, h1, iha h2, iht h3⟩
    · obtain ⟨v1, v2, h1, h2, h3⟩ := H
      exact ⟨v1, v2, h1, iha h2, iht h3⟩
  | agg s ih =>
    intro m vs H
    cases m
    · exact ih (m := false) H
    · obtain ⟨cs, h1, h2⟩ := H
      exact ⟨cs, h1, ih h2⟩
  | tup s ih =>
    intro m vs H
    cases m
    · exact H
    · obtain ⟨cs, h1, h2⟩ := H
      exact ⟨cs, h1, ih h2⟩
  | fn f s ih =>
    intro m vs H
    cases m <;> (obtain ⟨cs, h1, h2⟩ := H; exact ⟨cs, h1, ih h2⟩)
  | _ => intro m vs H; exact H
theorem Meets.nilled {P : Program} {f : FuncId} {Y : List D} {t : AV} {R : AV → List D → List (Nat × Path) → Prop} (h : Meets P f Y t.nilled R) : Meets P f Y t R :=
  ⟨h.1, fun w I F0 vs h1 h2 h3 h4 h5 h6 h7 => h.2 w I F0 vs h1 h2 h3 h4 h5 h6 h7.nilled⟩
end Go.Vc

/- Rules that take several steps at once, so that texts are short. -/
namespace Go.Vc
set_option linter.all false

section
variable {c : Cx} {l : List Code} {K : Exit → St → Prop} {st : St}

/-- What runs behind a region: some slots alone are kept. -/
def VSk (c : Cx) (l : List Code) (K : Exit → St → Prop) (ts : List Tmp) (st : St) : Prop := VS c l K (st.keep ts)
theorem VSk_eq (ts : List Tmp) : VSk c l K ts st = VS c l K (st.keep ts) := by rw [VSk]
def r_VSk := @VSk_eq
attribute [simp] r_VSk
attribute [irreducible] VSk
@[congr] theorem VSk_congr {ts : List Tmp} {st' : St} (h : tick st = st') : VSk c l K ts st = VSk c l K ts st' := by rw [tick_eq] at h; rw [h]
@[congr] theorem VS_congr {st' : St} (h : tick st = st') : VS c l K st = VS c l K st' := by rw [tick_eq] at h; rw [h]

theorem Rel.keep {a w} (hr : Rel c st a w) (ts : List Tmp) : Rel c (st.keep ts) a w := by
  obtain ⟨h1, h2, I, F, hi, he, hp⟩ := hr
  exact ⟨h1, h2, I, F, hi, fun t => by
    rcases look_keep st.env t ts with h' | h'
    · show Rl _ _ _ (look (ts.map _) t) true _
      rw [h']; exact rl_one
    · show Rl _ _ _ (look (ts.map _) t) true _
      rw [h']; exact he t, hp⟩

theorem VS_cons {x : Code} : VS c (x :: l) K st = VC c x (thenK (VS c l K) K) st := by with_unfolding_all rfl
theorem VC.then_keep {x : Code} {post : List Tmp} (h : VC c x (thenK (VSk c l K post) K) st) : VC c x (thenK (VS c l K) K) st :=
  VC.mono' h fun e st a w hk hr => by
    cases e with
    | normal =>
      have hk' : VSk c l K post st := hk
      rw [VSk_eq] at hk'
      exact ⟨_, hk', hr.keep post⟩
    | _ => exact ⟨_, hk, hr⟩

theorem VS.rg {τ : Tab} (hτ : Tab.Ok c.P τ) (id : Nat) {ops : List Oper} (pre post : List Tmp) (gs : List (Nat × Tmp)) (h : vcOps c τ gs ops 0 (st.keep pre) (VSk c l K post)) (hd : regOk c.nt ops gs = true) : VS c (.region id ops.toArray false :: l) K st := by
  refine VS.keepAt id pre ?_
  rw [VS_cons]
  exact VC.then_keep (VC.region hτ gs hd h)
theorem VS.dr {P : Program} {nt : Nat} {w0 : World} {I0 : Nat → Prop} {F0 : List G} {τ : Tab} (hτ : Tab.Ok P τ) (hm : P.follows .mixedOrders = true) (id : Nat) {ops : List Oper} (EM : Nat) (pre post : List Tmp) (gs : List (Nat × Tmp)) (T : List Rw) (p : Plan) (o : OP)
    (h : opsVc ⟨P, nt, w0, I0, F0⟩ τ gs ops o (st.keep pre) (VSk ⟨P, nt, w0, I0, F0⟩ l K post))
    (hT : ops.map (rowOf ops.toArray) = T) (hok : drawOk EM nt ops gs T p = true) (ho : opOf EM p = o) : VS ⟨P, nt, w0, I0, F0⟩ (.region id ops.toArray true :: l) K st := by
  refine VS.keepAt id pre ?_
  rw [VS_cons]
  exact VC.then_keep (VC.drawnE hτ hm EM gs T p o hT hok ho h)

theorem n1 {a b : Code} (h : VS c (a :: b :: l) K st) : VS c (.seq a b :: l) K st := VS.seq h
theorem n2 (h : VS c l K st) : VS c (.skip :: l) K st := VS.skip h
theorem n3 {id : Nat} {x : Code} (h : VS c [x] (blockN id (VS c l K) K) st) : VS c (.block id x :: l) K st := VS.block h
theorem n4 (h : K .normal st) : VS c [] K st := VS.nil h
variable {id : Nat} {N : St → Prop} {nb n : Nat} {J : Nat → St → Prop}
theorem n5 (h : N st) : blockN id N K .normal st := h
theorem n6 (h : nextK nb J n st) : loopN nb J n K .normal st := h
theorem n7 {i : Nat} (h : K (.exit i) st) : VS c (.exit i :: l) K st := VS.exit h
theorem n8 (h : N st) : blockN id N K (.exit id) st := blockN_hit h
theorem n9 {j : Nat} (h : K (.exit j) st) (hj : j ≠ id := by decide) : blockN id N K (.exit j) st := blockN_miss hj h
theorem n0 {j : Nat} (h : K (.exit j) st) : loopN nb J n K (.exit j) st := h
theorem nr (h : K .ret st) : VS c (.ret :: l) K st := VS.ret h
theorem nb_ (h : K .ret st) : blockN id N K .ret st := h
theorem nl_ (h : K .ret st) : loopN nb J n K .ret st := h
theorem nc {x : Operand} {t f : Code} (h : condVc (st.ev x) (VS c (t :: l) K st) (VS c (f :: l) K st)) : VS c (.cond x t f :: l) K st := VS.cond h
theorem ni {t f : Prop} {x : AV} (h : condVc x t f) : condVc x t f := h

theorem ghostL {x : Code} (k : Nat) (q : Path) (h : (k < st.X.length ∧ (st.tree k).okp q = true ∧ isNode ((st.tree k).at_ q) = true ∧ T.noEntry (st.tree k) q = true) ∧ VS c (x :: l) K (st.lift c.F0.length k q)) : VS c (x :: l) K st := VS.lift k q h.1.1 h.1.2.1 h.1.2.2.1 h.1.2.2.2 h.2
theorem ghostP {x : Code} (ts : List Tmp) (sel : List Nat) (h : selOk c.F0.length st.X.length sel = true ∧ VS c (x :: l) K (st.pick ts sel)) : VS c (x :: l) K st := VS.pick ts sel h.1 h.2
theorem ghostW {x : Code} (κ' : List (Nat × Path)) (h : st.κ.all (covers κ') = true ∧ VS c (x :: l) K { st with κ := κ' }) : VS c (x :: l) K st := VS.widen κ' h.1 h.2
end

theorem drs : (∀ (c : Cx) (τ : Tab) (gs : List (Nat × Tmp)) (ops : List Oper) (l : List Nat) (p : OP) (st : St) (K : St → Prop), opsVc c τ gs ops (.run l p) st K = vcOrd c τ gs (pickOps ops l) st fun st => opsVc c τ gs ops p st K) ∧
    (∀ (c : Cx) (τ : Tab) (gs : List (Nat × Tmp)) (ops : List Oper) (p q : OP) (st : St) (K : St → Prop), opsVc c τ gs ops (.both p q) st K = (opsVc c τ gs ops p st K ∧ opsVc c τ gs ops q st K)) ∧
    (∀ (c : Cx) (τ : Tab) (gs : List (Nat × Tmp)) (ops : List Oper) (i : Nat) (p : OP) (st : St) (K : St → Prop), opsVc c τ gs ops (.chk i p) st K = (freshVc τ st (ops[i]?) ∧ opsVc c τ gs ops p st K)) ∧
    (∀ (c : Cx) (τ : Tab) (gs : List (Nat × Tmp)) (ops : List Oper) (st : St) (K : St → Prop), opsVc c τ gs ops .done st K = K st) ∧
    (∀ (c : Cx) (τ : Tab) (gs : List (Nat × Tmp)) (ops : List Oper) (st : St) (K : St → Prop), opsVc c τ gs ops .yes st K = True) ∧
    (∀ ops : List Oper, pickOps ops [] = []) ∧ (∀ (ops : List Oper) (i : Nat) (l : List Nat), pickOps ops (i :: l) = (i, ops[i]?) :: pickOps ops l) ∧
    (∀ (a : Oper) (l : List Oper), (a :: l)[0]? = some a) ∧ ∀ (a : Oper) (l : List Oper) (n : Nat), (a :: l)[n + 1]? = l[n]? :=
  ⟨fun _ _ _ _ _ _ _ _ => opsVc_run, fun _ _ _ _ _ _ _ _ => opsVc_both, fun _ _ _ _ _ _ _ _ => opsVc_chk, fun _ _ _ _ _ _ => opsVc_done, fun _ _ _ _ _ _ => opsVc_yes, fun _ => rfl, fun _ _ _ => rfl, fun _ _ => rfl, fun _ _ _ => rfl⟩

theorem Meets.go {c : Cx} {f : FuncId} {Y : List D} {args : AV} {R : AV → List D → List (Nat × Path) → Prop} (h : Meets c.P f Y args R) {st : St} {avs : AV} {K : AV → St → Prop} (pls : List (Nat × Path))
    (hc : (pls.map (·.1)).Nodup ∧ placesOk st pls Y ∧ args.emb pls st.X.length = avs ∧ args.okArg pls.length = true ∧ (pls = [] ∨ avs.still = false)) (hK : ∀ av X κ, R av X κ → K (av.emb pls st.X.length) (st.after c.F0.length pls X κ)) : CallW c f avs st K :=
  h.call pls hc.1 hc.2.1 hc.2.2.1 hc.2.2.2.1 hc.2.2.2.2 hK

theorem endK.o {nb : Nat} {τ : Tab} {rs : List ResultVar} {R : AV → List D → List (Nat × Path) → Prop} {e : Exit} {st : St} (ts : List Tmp) (sel : List Nat) (κ' : List (Nat × Path)) (h : (selOk nb st.X.length sel = true ∧ st.κ.all (covers κ') = true) ∧
    retK τ rs R e { st.pick ts sel with κ := κ' }) : endK nb τ rs R e st := ⟨ts, sel, κ', h.1.1, h.1.2, h.2⟩
theorem nextK.o {nb : Nat} {J : Nat → St → Prop} {n : Nat} {st : St} (ts : List Tmp) (sel : List Nat) (m : Nat) (h : (m < n ∧ selOk nb st.X.length sel = true) ∧ J m (st.pick ts sel)) : nextK nb J n st := nextK.of ts sel m h.1.1 h.1.2 h.2

/-- A row of the table of types is right. -/
theorem Ty.Ok.okI {P : Program} {t : TypeId} {y : Ty} (i : TypeInfo) (z : Value) {b : Bool} {n : Nat} {g : G} (hl : y.ld = some (b, n)) (hz : y.zero = some g)
    (h1 : P.info? t = some i := by kernel_rfl) (h2 : i.zero = some z := by kernel_rfl) (h3 : zeroish g = true := by kernel_rfl) (h4 : z.cells.toList = g.cells := by kernel_rfl)
    (h5 : T.vAgg z = T.aggy g := by kernel_rfl) (h6 : aggTy P t = b := by kernel_rfl) (h7 : (P.underlying t).isSome = true := by kernel_rfl) (h8 : i.size = n := by kernel_rfl)
    (sl : ∀ e z by_ zv, y.sl = some (e, z, by_, zv) → P.underlying t = some (.slice e) ∧ ∃ i, P.info? e = some i ∧ i.zero = some zv ∧ i.size = z ∧ i.bytes = by_ ∧ zv.cells.size = z := by intro e z b v h; cases h)
    (st : ∀ l, y.st = some l → ∃ fs, P.underlying t = some (.struct fs) ∧ fs.toList.map (fun f => (f.offset, P.cellsOf f.type)) = l ∧ (∀ f ∈ fs.toList, (P.info? f.type).isSome = true) ∧ l.all (fun x => x.2 != 0) = true := by intro l h; cases h)
    (ar : ∀ n z, y.ar = some (n, z) → ∃ e, P.underlying t = some (.array n e) ∧ ∃ i, P.info? e = some i ∧ i.size = z := by intro n z h; cases h)
    (int : ∀ k, y.int = some k → P.underlying t = some (.int k) := by intro k h; cases h)
    (ptr : y.ptr = true → ∃ e, P.underlying t = some (.pointer e) := by intro h; cases h)
    (str : y.str = true → P.underlying t = some .string := by intro h; cases h)
    (bool : y.bool = true → P.underlying t = some .bool := by intro h; cases h)
    (mp : ∀ e kd, y.mp = some (e, kd) → ∃ k, P.underlying t = some (.map k e) ∧ P.underlying k = some (match (kd : Option IntKind) with | none => TypeDesc.string | some i => .int i) := by intro e k h; cases h)
    (ae : y.ae = true → ∃ n e, P.underlying t = some (.array n e) ∧ aggTy P e = false ∧ (P.underlying e).isSome = true := by intro h; cases h) : y.Ok P t where
  sl := sl
  ld := by intro b' n' h; rw [hl] at h; cases h; exact ⟨h6, h7, i, h1, h8⟩
  zero := by intro g' h; rw [hz] at h; cases h; exact ⟨h3, i, z, h1, h2, h4⟩
  zone := by intro g' h; rw [hz] at h; cases h; exact ⟨i, z, h1, h2, h5⟩
  st := st
  ar := ar
  int := int
  ptr := ptr
  str := str
  bool := bool
  mp := mp
  ae := ae
theorem Ty.Ok.okN {P : Program} {t : TypeId} : ({} : Ty).Ok P t :=
  ⟨(by intro e z b v h; cases h), (by intro b n h; cases h), (by intro g h; cases h), (by intro g h; cases h), (by intro l h; cases h), (by intro n z h; cases h), (by intro k h; cases h), (by intro h; cases h), (by intro h; cases h), (by intro h; cases h), (by intro e k h; cases h), (by intro h; cases h)⟩

end Go.Vc
